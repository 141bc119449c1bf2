import PyProof.Rows.All
import HandS.ForMost
import HandS.Exc
import HandS.ExcOwn
import HandS.ExcField
import HandS.ExcInit
import KE.KeyNested
import HandS.TupAny
import HandS.Text
import HandS.Iter
import HandS.Zip
import HandS.Rev
import HandS.Comp
import HandS.WordsExc
import KE.KExcSuper
import HandS.Words
import HandS.Deep
import HandS.TupLe
import HandS.TupMul
import HandS.IsInst
import HandS.WideBits
import HandS.Style
import HandS.EndBits
import OpenK.AllK
import Wide.All
import Wide.FinOn
import KE.OsRunLaw
import HandS.TupSets
import PyProof.ReprRoads
import PyProof.CallFns
import PyProof.ListMulRoad
import PyProof.FactsAll.tuple_2
import PyProof.P3Eq
import PyProof.NeData
import HandS.Conv
import KE.SortKeyHeap
import HandS.SortKw
import HandS.Star
import KE.GoesMore
import HandS.ClsMeth
import HandS.Property
import HandS.SortInts
import HandS.Set
import HandS.SetFor
import HandS.More
import HandS.ExcIs
import KE.KExcIs
import HandS.FStr
import HandS.RaiseMore
import PyProof.StrBlock2
import KE.KSuper
import HandS.MakeKwOnly
import HandS.Dict
import KE.KDictCopyH
import PyProof.NsCount
import HandS.Defaults
import HandS.Strs
import KE.KRevSl
import HandS.TryOnly
import PyProof.StrLawsTight
import PyProof.StrLawsJoin
import PyProof.ReprLen
import PyProof.FitsInt
import PyProof.Rows.ReprOcc
import PySem.Challenge.RW_lampthrong_k31_whole_null_space
set_option Elab.async false
set_option linter.all false
set_option maxRecDepth 100000
namespace LV
open PySem PySem.Spec L2
inductive D where
  | non | bl (b : Bool) | int (i : Int) | str (s : Str)
  | tup (xs : List D) | lst (xs : List D)
  | dct (ks vs : List D)
  | ins (C : Str) (ks : List Str) (vs : List D)
  /-- the law's script: a locked list of ints -/
  | scr (ns : List Int)
  /-- an own class -/
  | cls (C : Str)
  /-- whatever stands at a -/
  | ptr (a : Addr)
  /-- a tuple of which it is known that it has no attributes of its own -/
  | tpn (xs : List D)
  /-- an error of an own class that is held as a value -/
  | exn (C : Str) (ks : List Str) (vs : List D)
  deriving Inhabited
/-- an item of an owned list that owns some of its items: data, a list of one's own at q, a dict of one's own at q -/
inductive NI where
  | d (x : D)
  | l (q : Addr) (ds : List D)
  | t (q : Addr) (ks vs : List D)
def NI.dt : NI → D
  | .d x => x
  | .l _ ds => .lst ds
  | .t _ ks vs => .dct ks vs
def innL : List NI → List Addr
  | [] => []
  | .d _ :: xs => innL xs
  | .l q _ :: xs => q :: innL xs
  | .t q _ _ :: xs => q :: innL xs
/-- an owned object's content -/
inductive O where
  | lst (xs : List D)
  | dct (ks vs : List D)
  | ins (C : Str) (ks : List Str) (vs : List D)
  | nst (xs : List NI)
def O.d : O → D
  | .lst xs => .lst xs
  | .dct ks vs => .dct ks vs
  | .ins C ks vs => .ins C ks vs
  | .nst xs => .lst (xs.map NI.dt)
/-- what stands within it and is owned, too -/
def O.inn : O → List Addr
  | .nst xs => innL xs
  | _ => []
/-- p, which holds o, or what stands within -/
def Has (p : Addr) (o : O) (b : Addr) : Prop := b = p ∨ b ∈ o.inn
theorem Has.self {p : Addr} {o : O} : Has p o p := .inl rfl
theorem has1 {P : Addr → Prop} {p : Addr} {o : O} (hi : o.inn = []) (h : P p) : ∀ b, Has p o b → P b := fun b hb => by
  rcases hb with rfl | hb
  · exact h
  · rw [hi] at hb; cases hb
/-- what a slot holds -/
inductive Val where
  | fz (d : D)
  | ow (o : O)
  | ex (a : Addr) (C : Str) (ks : List Str) (vs : List D)
abbrev En := List (Option Val)
/-- an expression's value: data, a new owned object, or the object that slot i owns -/
inductive Rv where
  | fz (d : D)
  | ow (o : O)
  | sl (i : Nat)
/-- an exception in the air: its class, its fields -/
structure Xn where
  C : Str
  ks : List Str
  vs : List D
structure Md where
  K : PySem.W.Frag
  mg : Str → Option Value
  w : World
def kD : Key → D
  | .inl i => .int i
  | .inr x => .str x
mutual
def nkD : NestedKey → D
  | .none => .non
  | .num i => .int i
  | .text x => .str x
  | .tup ks => .tup (nkDs ks)
def nkDs : List NestedKey → List D
  | [] => []
  | k :: ks => nkD k :: nkDs ks
end
def NDO (w : World) (a : Addr) (xs : List (NestedKey × Addr × Value)) : HO := .ext fun h => (a == sysModules) = false ∧ xs.length ≤ sizeLine ∧ (xs.map (·.1)).Nodup ∧ ∃ o es ep, h.get? a = some o ∧ o.ExactDict ∧ o.data = .dict es ep ∧ es.toList = xs.map fun x => ⟨x.1.hash w, .ref x.2.1, x.2.2⟩
mutual
inductive Rep (M : Md) (F : Hp) : V → D → Prop
  | non : Rep M F .non .non
  | bl (b) : Rep M F (.bl b) (.bl b)
  | int (i) : Rep M F (.int i) (.int i)
  | str (s) : Rep M F (.str s) (.str s)
  | tup {a xs ds} : SqT M.K F a xs → RepL M F xs ds → Rep M F (.ref a) (.tup ds)
  | lst {a xs ds} : F a = some (.lst xs) → RepL M F xs ds → Rep M F (.ref a) (.lst ds)
  | scr {a ns} : SqL M.K F a (ns.map V.int) → Rep M F (.ref a) (.scr ns)
  | dK {a} {kv : List (Key × V)} {vs ds} : F a = some (.dK kv) → kv.map (·.2) = vs → RepL M F vs ds → Rep M F (.ref a) (.dct (kv.map fun p => kD p.1) ds)
  | dN {a xs vs ks ds} : F a = some (NDO M.w a xs) → ks = xs.map (fun x => nkD x.1) → ((∀ x ∈ xs, x.1.depth ≤ 8) ∧ xs ≠ []) → RepL M F (xs.map fun x => V.ref x.2.1) ks → Vals vs (xs.map fun x => x.2.2) → RepL M F vs ds → Rep M F (.ref a) (.dct ks ds)
  | cls {C c} : M.mg C = some (.ref c) → Rep M F (.ref c) (.cls C)
  | ptr {a} : Rep M F (.ref a) (.ptr a)
  | tpn {a o xs ds} : F a = some (.frz o (.tup xs)) → o.dict = none → RepL M F xs ds → Rep M F (.ref a) (.tpn ds)
  | exn {a C c dx} {fv : List (Str × V)} {vs ds} : M.mg C = some (.ref c) → F a = some (exo a c (some dx)) → F dx = some (exd dx fv) → fv.map (·.2) = vs → RepL M F vs ds → Rep M F (.ref a) (.exn C (fv.map (·.1)) ds)
  | ex0 {a C c} : M.mg C = some (.ref c) → F a = some (exo a c none) → Rep M F (.ref a) (.exn C [] [])
  | ins {a C c dx} {fv : List (Str × V)} {vs ds} : M.mg C = some (.ref c) → F a = some (.ins c dx fv) → fv.map (·.2) = vs → RepL M F vs ds → Rep M F (.ref a) (.ins C (fv.map (·.1)) ds)
inductive RepL (M : Md) (F : Hp) : List V → List D → Prop
  | nil : RepL M F [] []
  | cons {v vs d ds} : Rep M F v d → RepL M F vs ds → RepL M F (v :: vs) (d :: ds)
end
section
variable {M : Md} {F F' : Hp}
theorem Same.sqT (s : Same F F') {K : PySem.W.Frag} {a : Addr} {xs : List V} (h : SqT K F a xs) : SqT K F' a xs := by
  rcases h with (h | ⟨o, h⟩) | h
  · exact .inl (.inl (s _ _ h))
  · exact .inl (.inr ⟨o, s _ _ h⟩)
  · exact .inr h
mutual
theorem Rep.same (s : Same F F') : ∀ {v : V} {d : D}, Rep M F v d → Rep M F' v d
  | _, _, .non => .non
  | _, _, .bl b => .bl b
  | _, _, .int i => .int i
  | _, _, .str x => .str x
  | _, _, .tup h r => .tup (Same.sqT s h) (RepL.same s r)
  | _, _, .lst h r => .lst (s _ _ h) (RepL.same s r)
  | _, _, .scr h => .scr (s.seq h)
  | _, _, .dK h e r => .dK (s _ _ h) e (RepL.same s r)
  | _, _, .dN h e1 e2 r1 e3 r2 => .dN (s _ _ h) e1 e2 (RepL.same s r1) e3 (RepL.same s r2)
  | _, _, .cls g => .cls g
  | _, _, .ptr => .ptr
  | _, _, .tpn h n r => .tpn (s _ _ h) n (RepL.same s r)
  | _, _, .exn g h1 h2 e r => .exn g (s _ _ h1) (s _ _ h2) e (RepL.same s r)
  | _, _, .ex0 g h => .ex0 g (s _ _ h)
  | _, _, .ins g h e r => .ins g (s _ _ h) e (RepL.same s r)
theorem RepL.same (s : Same F F') : ∀ {vs : List V} {ds : List D}, RepL M F vs ds → RepL M F' vs ds
  | _, _, .nil => .nil
  | _, _, .cons h r => .cons (Rep.same s h) (RepL.same s r)
end
theorem RepL.length : ∀ {vs : List V} {ds : List D}, RepL M F vs ds → vs.length = ds.length
  | _, _, .nil => rfl
  | _, _, .cons _ r => by rw [List.length_cons, List.length_cons, r.length]
theorem RepL.append : ∀ {vs us : List V} {ds es : List D}, RepL M F vs ds → RepL M F us es → RepL M F (vs ++ us) (ds ++ es)
  | _, _, _, _, .nil, s => s
  | _, _, _, _, .cons h r, s => .cons h (RepL.append r s)
theorem RepL.get : ∀ {vs : List V} {ds : List D} {i : Nat} {v : V}, RepL M F vs ds → vs[i]? = some v → ∃ d, ds[i]? = some d ∧ Rep M F v d
  | _, _, _, _, .nil, e => by simp at e
  | _, _, 0, _, .cons h _, e => by simp at e; subst e; exact ⟨_, rfl, h⟩
  | _, _, i + 1, v, .cons _ r, e => by
    obtain ⟨d, h1, h2⟩ := RepL.get (i := i) (v := v) r (by simpa using e)
    exact ⟨d, by simpa using h1, h2⟩
theorem RepL.get' : ∀ {vs : List V} {ds : List D} {i : Nat} {d : D}, RepL M F vs ds → ds[i]? = some d → ∃ v, vs[i]? = some v ∧ Rep M F v d
  | _, _, _, _, .nil, e => by simp at e
  | _, _, 0, _, .cons h _, e => by simp at e; subst e; exact ⟨_, rfl, h⟩
  | _, _, i + 1, d, .cons _ r, e => by
    obtain ⟨v, h1, h2⟩ := RepL.get' (i := i) (d := d) r (by simpa using e)
    exact ⟨v, by simpa using h1, h2⟩
theorem RepL.take : ∀ {vs : List V} {ds : List D} (n : Nat), RepL M F vs ds → RepL M F (vs.take n) (ds.take n)
  | _, _, 0, _ => .nil
  | _, _, _ + 1, .nil => .nil
  | _, _, n + 1, .cons h r => .cons h (RepL.take n r)
theorem RepL.drop : ∀ {vs : List V} {ds : List D} (n : Nat), RepL M F vs ds → RepL M F (vs.drop n) (ds.drop n)
  | _, _, 0, r => r
  | _, _, _ + 1, .nil => .nil
  | _, _, n + 1, .cons _ r => RepL.drop n r
theorem RepL.reverse : ∀ {vs : List V} {ds : List D}, RepL M F vs ds → RepL M F vs.reverse ds.reverse
  | _, _, .nil => .nil
  | _, _, .cons h r => by
    rw [List.reverse_cons, List.reverse_cons]
    exact (RepL.reverse r).append (.cons h .nil)
theorem RepL.set {v : V} {d : D} (h : Rep M F v d) : ∀ {vs : List V} {ds : List D} (i : Nat), RepL M F vs ds → RepL M F (vs.set i v) (ds.set i d)
  | _, _, _, .nil => .nil
  | _, _, 0, .cons _ t => .cons h t
  | _, _, i + 1, .cons q t => .cons q (RepL.set h i t)
theorem RepL.ints : ∀ {vs : List V} {ns : List Int}, RepL M F vs (ns.map D.int) → vs = ns.map V.int
  | _, [], .nil => rfl
  | _, n :: ns, .cons h r => by
    cases h
    rw [RepL.ints (ns := ns) r]; rfl
theorem RepL.of_ints : ∀ (ns : List Int), RepL M F (ns.map V.int) (ns.map D.int)
  | [] => .nil
  | n :: ns => .cons (.int n) (RepL.of_ints ns)
end
abbrev DRep (M : Md) (F H : Hp) (p : Addr) (ks ds : List D) : Prop := (∃ kv : List (Key × V), H p = some (.dK kv) ∧ kv.map (fun p => kD p.1) = ks ∧ RepL M F (kv.map (·.2)) ds) ∨
      (∃ xs vs, H p = some (NDO M.w p xs) ∧ ks = xs.map (fun x => nkD x.1) ∧ ((∀ x ∈ xs, x.1.depth ≤ 8) ∧ xs ≠ []) ∧ RepL M F (xs.map fun x => V.ref x.2.1) ks ∧ Vals vs (xs.map fun x => x.2.2) ∧ RepL M F vs ds)
/-- the items of an owned list that owns some of its items -/
inductive NRepL (M : Md) (F H : Hp) : List V → List NI → Prop
  | nil : NRepL M F H [] []
  | d {v x vs xs} : Rep M F v x → NRepL M F H vs xs → NRepL M F H (v :: vs) (.d x :: xs)
  | l {q us ds vs xs} : F q = none → H q = some (.lst us) → RepL M F us ds → NRepL M F H vs xs → NRepL M F H (.ref q :: vs) (.l q ds :: xs)
  | t {q ks ds vs xs} : F q = none → DRep M F H q ks ds → NRepL M F H vs xs → NRepL M F H (.ref q :: vs) (.t q ks ds :: xs)
theorem DRep.same {M : Md} {F F' H H' : Hp} {p : Addr} {ks ds : List D} (s : Same F F') (e : H' p = H p) (h : DRep M F H p ks ds) : DRep M F' H' p ks ds := by
  rcases h with ⟨kv, h1, h2, h3⟩ | ⟨xs, vs, h1, h2, h3, h4, h5, h6⟩
  · exact .inl ⟨kv, e.trans h1, h2, h3.same s⟩
  · exact .inr ⟨xs, vs, e.trans h1, h2, h3, h4.same s, h5, h6.same s⟩
theorem DRep.there {M : Md} {F H : Hp} {p : Addr} {ks ds : List D} (h : DRep M F H p ks ds) : ∃ u, H p = some u := by
  rcases h with ⟨kv, h1, _⟩ | ⟨xs, vs, h1, _⟩
  · exact ⟨_, h1⟩
  · exact ⟨_, h1⟩
theorem NRepL.same {M : Md} {F F' H H' : Hp} (s : Same F F') : ∀ {vs : List V} {xs : List NI}, (∀ b ∈ innL xs, H' b = H b ∧ F' b = none) → NRepL M F H vs xs → NRepL M F' H' vs xs
  | _, _, _, .nil => .nil
  | _, _, e, .d h tl => .d (h.same s) (NRepL.same s e tl)
  | _, _, e, .l _ h r tl => .l (e _ List.mem_cons_self).2 ((e _ List.mem_cons_self).1.trans h) (r.same s) (NRepL.same s (fun b hb => e b (List.mem_cons_of_mem _ hb)) tl)
  | _, _, e, .t _ h tl => .t (e _ List.mem_cons_self).2 (DRep.same s (e _ List.mem_cons_self).1 h) (NRepL.same s (fun b hb => e b (List.mem_cons_of_mem _ hb)) tl)
theorem NRepL.inner {M : Md} {F H : Hp} : ∀ {vs : List V} {xs : List NI}, NRepL M F H vs xs → ∀ b ∈ innL xs, F b = none ∧ ∃ u, H b = some u
  | _, _, .nil, _, hb => nomatch hb
  | _, _, .d _ tl, b, hb => NRepL.inner tl b hb
  | _, _, .l f h _ tl, b, hb => by
    rcases List.mem_cons.mp hb with rfl | hb
    · exact ⟨f, _, h⟩
    · exact NRepL.inner tl b hb
  | _, _, .t f h tl, b, hb => by
    rcases List.mem_cons.mp hb with rfl | hb
    · exact ⟨f, DRep.there h⟩
    · exact NRepL.inner tl b hb
theorem NRepL.length {M : Md} {F H : Hp} : ∀ {vs : List V} {xs : List NI}, NRepL M F H vs xs → vs.length = xs.length
  | _, _, .nil => rfl
  | _, _, .d _ tl => by rw [List.length_cons, List.length_cons, tl.length]
  | _, _, .l _ _ _ tl => by rw [List.length_cons, List.length_cons, tl.length]
  | _, _, .t _ _ tl => by rw [List.length_cons, List.length_cons, tl.length]
/-- the heap object of an owned content at p -/
def ORep (M : Md) (F H : Hp) (p : Addr) : O → Prop
  | .nst xs => ∃ vs, H p = some (.lst vs) ∧ NRepL M F H vs xs ∧ (p :: innL xs).Nodup
  | .lst ds => ∃ xs, H p = some (.lst xs) ∧ RepL M F xs ds
  | .dct ks ds => (∃ kv : List (Key × V), H p = some (.dK kv) ∧ kv.map (fun p => kD p.1) = ks ∧ RepL M F (kv.map (·.2)) ds) ∨
      (∃ xs vs, H p = some (NDO M.w p xs) ∧ ks = xs.map (fun x => nkD x.1) ∧ ((∀ x ∈ xs, x.1.depth ≤ 8) ∧ xs ≠ []) ∧ RepL M F (xs.map fun x => V.ref x.2.1) ks ∧ Vals vs (xs.map fun x => x.2.2) ∧ RepL M F vs ds)
  | .ins C ks ds => ∃ c dx fv, M.mg C = some (.ref c) ∧ H p = some (.ins c dx fv) ∧ fv.map (·.1) = ks ∧ RepL M F (fv.map (·.2)) ds
theorem same_upd {F : Hp} {p : Addr} {o : HO} (h : F p = none) : Same F (upd F p o) := fun b x e => by
  rw [upd_ne (ne_of_none e h)]; exact e
theorem same_updR {F H : Hp} {p : Addr} {o : HO} (s : Same F H) (h : H p = some o) : Same (upd F p o) H := fun b x e => by
  by_cases hb : b = p
  · subst hb; rw [upd_same] at e; cases e; exact h
  · rw [upd_ne hb] at e; exact s _ _ e
theorem ORep.same {M : Md} {F F' H H' : Hp} {p : Addr} {o : O} (s : Same F F') (e : H' p = H p) (hin : ∀ b ∈ o.inn, H' b = H b ∧ F' b = none) (h : ORep M F H p o) : ORep M F' H' p o := by
  cases o with
  | nst xs => obtain ⟨vs, h1, h2, h3⟩ := h; exact ⟨vs, e.trans h1, h2.same s hin, h3⟩
  | lst ds => obtain ⟨xs, h1, h2⟩ := h; exact ⟨xs, e.trans h1, h2.same s⟩
  | dct ks ds =>
    rcases h with ⟨kv, h1, h2, h3⟩ | ⟨xs, vs, h1, h2, h3, h4, h5, h6⟩
    · exact .inl ⟨kv, e.trans h1, h2, h3.same s⟩
    · exact .inr ⟨xs, vs, e.trans h1, h2, h3, h4.same s, h5, h6.same s⟩
  | ins C ks ds => obtain ⟨c, dx, fv, g, h1, h2, h3⟩ := h; exact ⟨c, dx, fv, g, e.trans h1, h2, h3.same s⟩
theorem ORep.there {M : Md} {F H : Hp} {p : Addr} {o : O} (h : ORep M F H p o) : ∃ u, H p = some u := by
  cases o with
  | nst xs => obtain ⟨vs, h1, _⟩ := h; exact ⟨_, h1⟩
  | lst ds => obtain ⟨xs, h1, _⟩ := h; exact ⟨_, h1⟩
  | dct ks ds => exact DRep.there h
  | ins C ks ds => obtain ⟨c, dx, fv, g, h1, h2, h3⟩ := h; exact ⟨_, h1⟩
theorem ORep.inner {M : Md} {F H : Hp} {p : Addr} {o : O} (h : ORep M F H p o) : ∀ b ∈ o.inn, F b = none ∧ ∃ u, H b = some u := by
  cases o with
  | nst xs => obtain ⟨vs, _, h2, _⟩ := h; exact h2.inner
  | _ => exact fun b hb => nomatch hb
theorem ORep.has {M : Md} {F H : Hp} {p : Addr} {o : O} (h : ORep M F H p o) (hp : F p = none) : ∀ b, Has p o b → F b = none ∧ ∃ u, H b = some u := fun b hb => by
  rcases hb with rfl | hb
  · exact ⟨hp, h.there⟩
  · exact h.inner b hb
/-- F' is F and what stands at S -/
structure FrzTo (F H F' : Hp) (S : Addr → Prop) : Prop where
  fs : Same F F'
  sub : Same F' H
  fn : ∀ b u, F' b = some u → F b = some u ∨ S b
  ne : ∀ b, ¬ S b → F' b = F b
theorem FrzTo.one {F H : Hp} {p : Addr} {u : HO} (s : Same F H) (hp : F p = none) (hu : H p = some u) : FrzTo F H (upd F p u) (· = p) where
  fs := same_upd hp
  sub := same_updR s hu
  fn := fun b v h => by
    by_cases e : b = p
    · exact .inr e
    · rw [upd_ne e] at h; exact .inl h
  ne := fun b h => upd_ne h
theorem FrzTo.trans {F H F1 F2 : Hp} {S T : Addr → Prop} (a : FrzTo F H F1 S) (b : FrzTo F1 H F2 T) : FrzTo F H F2 fun x => S x ∨ T x where
  fs := a.fs.trans b.fs
  sub := b.sub
  fn := fun x u h => by
    rcases b.fn x u h with h | h
    · rcases a.fn x u h with h | h
      · exact .inl h
      · exact .inr (.inl h)
    · exact .inr (.inr h)
  ne := fun x h => (b.ne x fun z => h (.inr z)).trans (a.ne x fun z => h (.inl z))
theorem FrzTo.mono {F H F1 : Hp} {S T : Addr → Prop} (a : FrzTo F H F1 S) (h : ∀ b, S b ↔ T b) : FrzTo F H F1 T := by
  have : S = T := funext fun b => propext (h b)
  exact this ▸ a
theorem FrzTo.refl {F H : Hp} {S : Addr → Prop} (s : Same F H) (h : ∀ b, ¬ S b) : FrzTo F H F S := ⟨Same.refl _, s, fun _ _ h => .inl h, fun _ _ => rfl⟩
theorem DRep.freeze {M : Md} {F H : Hp} {p : Addr} {ks ds : List D} (h : DRep M F H p ks ds) (hp : F p = none) : ∃ u, H p = some u ∧ Rep M (upd F p u) (.ref p) (.dct ks ds) := by
  have s : ∀ u, Same F (upd F p u) := fun u => same_upd hp
  rcases h with ⟨kv, h1, h2, h3⟩ | ⟨xs, vs, h1, h2, h3, h4, h5, h6⟩
  · subst h2; exact ⟨_, h1, .dK upd_same rfl (h3.same (s _))⟩
  · exact ⟨_, h1, .dN upd_same h2 h3 (h4.same (s _)) h5 (h6.same (s _))⟩
theorem NRepL.freeze {M : Md} {H : Hp} : ∀ {F : Hp} {vs : List V} {xs : List NI}, Same F H → NRepL M F H vs xs → (innL xs).Nodup → ∃ F', FrzTo F H F' (· ∈ innL xs) ∧ RepL M F' vs (xs.map NI.dt)
  | F, _, _, s, .nil, _ => ⟨F, .refl s (fun _ h => nomatch h), .nil⟩
  | F, _, _, s, .d h tl, n => by
    obtain ⟨F', a, b⟩ := NRepL.freeze s tl n
    exact ⟨F', a, .cons (h.same a.fs) b⟩
  | F, _, _, s, .l (q := q) (xs := xs) hf h r tl, n => by
    have n' := List.nodup_cons.mp n
    have a := FrzTo.one s hf h
    have t' : NRepL M (upd F q _) H _ xs := tl.same a.fs fun b hb => ⟨rfl, by
      have : b ≠ q := fun z => n'.1 (z ▸ hb)
      rw [upd_ne this]; exact (tl.inner b hb).1⟩
    obtain ⟨F', b, c⟩ := NRepL.freeze a.sub t' n'.2
    exact ⟨F', (a.trans b).mono fun x => List.mem_cons.symm, .cons (.lst (b.fs _ _ upd_same) (r.same (a.fs.trans b.fs))) c⟩
  | F, _, _, s, .t (q := q) (xs := xs) hf h tl, n => by
    have n' := List.nodup_cons.mp n
    obtain ⟨u, hu, rp⟩ := DRep.freeze h hf
    have a := FrzTo.one s hf hu
    have t' : NRepL M (upd F q u) H _ xs := tl.same a.fs fun b hb => ⟨rfl, by
      have : b ≠ q := fun z => n'.1 (z ▸ hb)
      rw [upd_ne this]; exact (tl.inner b hb).1⟩
    obtain ⟨F', b, c⟩ := NRepL.freeze a.sub t' n'.2
    exact ⟨F', (a.trans b).mono fun x => List.mem_cons.symm, .cons (rp.same b.fs) c⟩
/-- an owned object is frozen -/
theorem ORep.freeze {M : Md} {F H : Hp} {p : Addr} {o : O} (sm : Same F H) (h : ORep M F H p o) (hp : F p = none) : ∃ F', FrzTo F H F' (Has p o) ∧ Rep M F' (.ref p) o.d := by
  have s : ∀ u, Same F (upd F p u) := fun u => same_upd hp
  have e0 : ∀ {o : O}, o.inn = [] → ∀ b, b = p ↔ Has p o b := fun ho b => ⟨fun z => .inl z, fun z => has1 (P := (· = p)) ho rfl b z⟩
  cases o with
  | lst ds => obtain ⟨xs, h1, h2⟩ := h; exact ⟨_, (FrzTo.one sm hp h1).mono (e0 rfl), .lst upd_same (h2.same (s _))⟩
  | dct ks ds =>
    obtain ⟨u, hu, rp⟩ := DRep.freeze h hp
    exact ⟨_, (FrzTo.one sm hp hu).mono (e0 rfl), rp⟩
  | ins C ks ds => obtain ⟨c, dx, fv, g, h1, h2, h3⟩ := h; subst h2; exact ⟨_, (FrzTo.one sm hp h1).mono (e0 rfl), .ins g upd_same rfl (h3.same (s _))⟩
  | nst xs =>
    obtain ⟨vs, h1, h2, h3⟩ := h
    have n' := List.nodup_cons.mp h3
    obtain ⟨F1, a, b⟩ := h2.freeze sm n'.2
    have hp1 : F1 p = none := (a.ne p n'.1).trans hp
    have c := FrzTo.one a.sub hp1 h1
    exact ⟨_, (a.trans c).mono fun x => Or.comm, .lst upd_same (b.same c.fs)⟩
/-- the addresses that the slots own -/
def Own (σ : St) (env : En) (b : Addr) : Prop := ∃ (i : Nat) (o : O), env[i]? = some (some (Val.ow o)) ∧ ∃ p, σ[i]? = some (some (V.ref p)) ∧ Has p o b
/-- what a def's proof fixes: the slots that are not stored (its owned parameters), their values, the tracked heap at its start -/
structure Ct where
  pn : List Nat
  σ₀ : St
  h₀ : Hp
  xc : Addr → Value → Option Addr → Prop
  /-- the tracked heap before what stands within owned objects was made -/
  hN : Hp
/-- arguments: none of them owns within -/
def ctN (H : Hp) : Ct := ⟨[], [], fun _ => none, fun _ _ _ => False, H⟩
def XOk (M : Md) (F : Hp) (x : Xn) (c : Value) (d : Option Addr) : Prop :=
  ∃ C, M.mg x.C = some (.ref C) ∧ c = .ref C ∧ ((d = none ∧ x.ks = [] ∧ x.vs = []) ∨ ∃ (dd : Addr) (fv : List (Str × V)), d = some dd ∧ F dd = some (.xd fv) ∧ fv.map (·.1) = x.ks ∧ RepL M F (fv.map (·.2)) x.vs)
theorem XOk.same {M : Md} {F F' : Hp} {x : Xn} {cl : Value} {d : Option Addr} (h : XOk M F x cl d) (s : Same F F') : XOk M F' x cl d := by
  obtain ⟨C, h1, h2, h3⟩ := h
  refine ⟨C, h1, h2, ?_⟩
  rcases h3 with h3 | ⟨dd, fv, h3, h4, h5, h6⟩
  · exact .inl h3
  · exact .inr ⟨dd, fv, h3, s _ _ h4, h5, h6.same s⟩
structure Rel (M : Md) (c : Ct) (F H : Hp) (σ : St) (env : En) : Prop where
  sub : Same F H
  len : env.length = σ.length
  fz : ∀ (i : Nat) (d : D), env[i]? = some (some (.fz d)) → ∃ v, σ[i]? = some (some v) ∧ Rep M F v d
  ow : ∀ (i : Nat) (o : O), env[i]? = some (some (.ow o)) → ∃ p, σ[i]? = some (some (.ref p)) ∧ F p = none ∧ ORep M F H p o
  ex : ∀ (i : Nat) (a : Addr) (C : Str) (ks : List Str) (vs : List D), env[i]? = some (some (.ex a C ks vs)) → σ[i]? = some (some (.ref a)) ∧ ∃ cl d, c.xc a cl d ∧ XOk M F ⟨C, ks, vs⟩ cl d
  sep : ∀ (i j : Nat) (o u : O) (b : Addr), env[i]? = some (some (.ow o)) → env[j]? = some (some (.ow u)) → (∃ p, σ[i]? = some (some (.ref p)) ∧ Has p o b) → (∃ p, σ[j]? = some (some (.ref p)) ∧ Has p u b) → i = j
  pin : ∀ i : Nat, i ∈ c.pn → σ[i]? = c.σ₀[i]?
  old : ∀ b u, c.h₀ b = some u → ∃ u', H b = some u'
  fr : ∀ (i : Nat) (o : O) (p : Addr), env[i]? = some (some (.ow o)) → i ∉ c.pn → σ[i]? = some (some (.ref p)) → c.h₀ p = none
  frN : ∀ (i : Nat) (o : O) (b : Addr), env[i]? = some (some (.ow o)) → b ∈ o.inn → c.hN b = none ∧ c.h₀ b = none
  oldN : ∀ b u, c.hN b = some u → ∃ u', H b = some u'
/-- from (F, H) to (F', H'): only what A holds has changed or was frozen; A' is A or new -/
structure Evo (A A' : Addr → Prop) (F H F' H' : Hp) : Prop where
  fs : Same F F'
  fn : ∀ b o, F' b = some o → F b = some o ∨ H b = none ∨ A b
  hk : ∀ b o, H b = some o → ¬ A b → H' b = some o
  ht : ∀ b o, H b = some o → ∃ u, H' b = some u
  aa : ∀ b, A' b → A b ∨ H b = none
theorem Evo.refl {A : Addr → Prop} {F H : Hp} : Evo A A F H F H := ⟨Same.refl _, fun _ _ h => .inl h, fun _ _ h _ => h, fun _ o h => ⟨o, h⟩, fun _ h => .inl h⟩
theorem Evo.sub {A A' : Addr → Prop} {F H : Hp} (h : ∀ b, A' b → A b) : Evo A A' F H F H := ⟨Same.refl _, fun _ _ h => .inl h, fun _ _ h _ => h, fun _ o h => ⟨o, h⟩, fun b q => .inl (h b q)⟩
theorem Evo.trans {A A' A'' : Addr → Prop} {F H F' H' F'' H'' : Hp} (a : Evo A A' F H F' H') (b : Evo A' A'' F' H' F'' H'') : Evo A A'' F H F'' H'' := by
  have key : ∀ c, H' c = none → H c = none := fun c e => by
    cases q : H c with
    | none => rfl
    | some o => obtain ⟨u, hu⟩ := a.ht c o q; rw [hu] at e; cases e
  refine ⟨a.fs.trans b.fs, fun c o h => ?_, fun c o h n => ?_, fun c o h => ?_, fun c h => ?_⟩
  · rcases b.fn c o h with h | h | h
    · exact a.fn c o h
    · exact .inr (.inl (key c h))
    · rcases a.aa c h with h | h
      · exact .inr (.inr h)
      · exact .inr (.inl h)
  · refine b.hk c o (a.hk c o h n) fun z => ?_
    rcases a.aa c z with z | z
    · exact n z
    · rw [h] at z; cases z
  · obtain ⟨u, hu⟩ := a.ht c o h
    exact b.ht c u hu
  · rcases b.aa c h with h | h
    · exact a.aa c h
    · exact .inr (key c h)
theorem Evo.noneOf {A A' : Addr → Prop} {F H F' H' : Hp} (a : Evo A A' F H F' H') {c : Addr} (e : H' c = none) : H c = none := by
  cases q : H c with
  | none => rfl
  | some o => obtain ⟨u, hu⟩ := a.ht c o q; rw [hu] at e; cases e
/-- what is tracked, owned by none and not frozen stays so -/
theorem Evo.keepTemp {A A' : Addr → Prop} {F H F' H' : Hp} (a : Evo A A' F H F' H') {p : Addr} {u : HO} (h : H p = some u) (hf : F p = none) (hA : ¬ A p) : H' p = some u ∧ F' p = none ∧ ¬ A' p := by
  refine ⟨a.hk p u h hA, ?_, fun z => ?_⟩
  · cases q : F' p with
    | none => rfl
    | some o =>
      rcases a.fn p o q with z | z | z
      · rw [hf] at z; cases z
      · rw [h] at z; cases z
      · exact absurd z hA
  · rcases a.aa p z with z | z
    · exact hA z
    · rw [h] at z; cases z
/-- no owner at all touched -/
abbrev Nob : Addr → Prop := fun _ => False
theorem Evo.nob {A : Addr → Prop} {F H F' H' : Hp} (a : Evo Nob Nob F H F' H') : Evo A A F H F' H' :=
  ⟨a.fs, fun b o h => by rcases a.fn b o h with h | h | h; exact .inl h; exact .inr (.inl h); exact h.elim, fun b o h _ => a.hk b o h (fun z => z), a.ht, fun _ h => .inl h⟩
/-- a new frozen object -/
theorem Evo.newF {F H : Hp} {p : Addr} {o : HO} (hp : H p = .none) (hF : F p = .none) : Evo Nob Nob F H (upd F p o) (upd H p o) := by
  refine ⟨same_upd hF, fun b u h => ?_, fun b u h _ => ?_, fun b u h => ?_, fun _ h => h.elim⟩
  · by_cases hb : b = p
    · subst hb; exact .inr (.inl hp)
    · rw [upd_ne hb] at h; exact .inl h
  · rw [upd_ne (ne_of_none h hp)]; exact h
  · exact ⟨u, by rw [upd_ne (ne_of_none h hp)]; exact h⟩
/-- a new owned object -/
theorem Evo.newO {F H : Hp} {p : Addr} {o : HO} (hp : H p = .none) : Evo Nob Nob F H F (upd H p o) := by
  refine ⟨Same.refl _, fun b u h => .inl h, fun b u h _ => ?_, fun b u h => ?_, fun _ h => h.elim⟩
  · rw [upd_ne (ne_of_none h hp)]; exact h
  · exact ⟨u, by rw [upd_ne (ne_of_none h hp)]; exact h⟩
theorem same_newO {F H : Hp} {p : Addr} {o : HO} (s : Same F H) (hp : H p = none) : Same F (upd H p o) := fun b u h => by
  have := s _ _ h
  rw [upd_ne (ne_of_none this hp)]; exact this
theorem same_newF {F H : Hp} {p : Addr} {o : HO} (s : Same F H) (hp : H p = none) : Same (upd F p o) (upd H p o) := fun b u h => by
  by_cases hb : b = p
  · subst hb; rw [upd_same] at h ⊢; exact h
  · rw [upd_ne hb] at h ⊢; exact s _ _ h
section
variable {M : Md} {c : Ct} {F H F' H' : Hp} {σ : St} {env env' : En}
theorem Rel.new (R : Rel M c F H σ env) {p : Addr} (h : H p = none) : c.h₀ p = none := by
  cases q : c.h₀ p with
  | none => rfl
  | some u => obtain ⟨u', hu⟩ := R.old p u q; rw [h] at hu; cases hu
theorem Rel.newN (R : Rel M c F H σ env) {p : Addr} (h : H p = none) : c.hN p = none := by
  cases q : c.hN p with
  | none => rfl
  | some u => obtain ⟨u', hu⟩ := R.oldN p u q; rw [h] at hu; cases hu
theorem Rel.own_some (R : Rel M c F H σ env) {b : Addr} (h : Own σ env b) : ∃ u, H b = some u := by
  obtain ⟨i, o, h1, p, h2, h5⟩ := h
  obtain ⟨q, h3, h4, h6⟩ := R.ow i o h1
  rw [h2] at h3; cases h3; exact (h6.has h4 b h5).2
/-- a step that touches no owner -/
theorem Rel.evo (R : Rel M c F H σ env) (e : Evo Nob Nob F H F' H') (s : Same F' H') : Rel M c F' H' σ env := by
  refine ⟨s, R.len, fun i d h => ?_, fun i o h => ?_, fun i a C ks vs h => (R.ex i a C ks vs h).imp id fun ⟨cl, d, h2, h3⟩ => ⟨cl, d, h2, h3.same e.fs⟩, R.sep, R.pin, fun b u h => ?_, R.fr, R.frN, fun b u h => ?_⟩
  · obtain ⟨v, h1, h2⟩ := R.fz i d h
    exact ⟨v, h1, h2.same e.fs⟩
  · obtain ⟨p, h1, h2, h3⟩ := R.ow i o h
    have k : ∀ b, Has p o b → H' b = H b ∧ F' b = none := fun b hb => by
      obtain ⟨h4, u, hu⟩ := h3.has h2 b hb
      obtain ⟨q1, q2, _⟩ := e.keepTemp hu h4 (fun z => z)
      exact ⟨q1.trans hu.symm, q2⟩
    exact ⟨p, h1, (k p .self).2, h3.same e.fs (k p .self).1 fun b hb => k b (.inr hb)⟩
  · obtain ⟨u', hu⟩ := R.old b u h
    exact e.ht b u' hu
  · obtain ⟨u', hu⟩ := R.oldN b u h
    exact e.ht b u' hu
/-- more is frozen, nothing of it owned -/
theorem Rel.frzTo (R : Rel M c F H σ env) {F' : Hp} {S : Addr → Prop} (f : FrzTo F H F' S) (hn : ∀ b, S b → ¬ Own σ env b) : Rel M c F' H σ env := by
  refine ⟨f.sub, R.len, fun i d h => ?_, fun i o h => ?_, fun i a C ks vs h => (R.ex i a C ks vs h).imp id fun ⟨cl, d, h2, h3⟩ => ⟨cl, d, h2, h3.same f.fs⟩, R.sep, R.pin, R.old, R.fr, R.frN, R.oldN⟩
  · obtain ⟨v, h1, h2⟩ := R.fz i d h
    exact ⟨v, h1, h2.same f.fs⟩
  · obtain ⟨p, h1, h2, h3⟩ := R.ow i o h
    have k : ∀ b, Has p o b → F' b = none := fun b hb => by
      rw [f.ne b fun z => hn b z ⟨i, o, h, p, h1, hb⟩]
      exact (h3.has h2 b hb).1
    exact ⟨p, h1, k p .self, h3.same f.fs rfl fun b hb => ⟨rfl, k b (.inr hb)⟩⟩
/-- slot i's object is frozen -/
theorem Rel.freeze (R : Rel M c F H σ env) {i : Nat} {o : O} (h : env[i]? = some (some (.ow o))) : ∃ p F', σ[i]? = some (some (.ref p)) ∧ Rel M c F' H σ (env.set i (some (.fz o.d))) ∧ Rep M F' (.ref p) o.d ∧
    Evo (Own σ env) (Own σ (env.set i (some (.fz o.d)))) F H F' H ∧ (∀ b, F' b = none → F b = none) ∧ (∀ b, ¬ Has p o b → F' b = F b) := by
  obtain ⟨p, h1, h2, h3⟩ := R.ow i o h
  obtain ⟨F', f, h5⟩ := h3.freeze R.sub h2
  have hi : i < env.length := (List.getElem?_eq_some_iff.mp h).1
  have key : ∀ {j : Nat} {v : O}, (env.set i (some (.fz o.d)))[j]? = some (some (.ow v)) → i ≠ j ∧ env[j]? = some (some (.ow v)) := fun {j v} hj => by
    by_cases e : i = j
    · subst e
      rw [List.getElem?_set_self hi] at hj
      cases hj
    · rw [List.getElem?_set_ne e] at hj
      exact ⟨e, hj⟩
  refine ⟨p, F', h1, ⟨f.sub, by rw [List.length_set]; exact R.len, fun j d hj => ?_, fun j v hj => ?_, fun j a C ks vs hj => ?_, fun j k v w q hj hk => R.sep j k v w q (key hj).2 (key hk).2, R.pin, R.old, fun j v q hj hn hq => R.fr j v q (key hj).2 hn hq, fun j v q hj hq => R.frN j v q (key hj).2 hq, R.oldN⟩, h5, ⟨f.fs, fun b v hb => ?_, fun b v hb _ => hb, fun b v hb => ⟨v, hb⟩, fun b ⟨j, v, h6, h7⟩ => .inl ⟨j, v, (key h6).2, h7⟩⟩, fun b hb => ?_, f.ne⟩
  · by_cases e : i = j
    · subst e
      rw [List.getElem?_set_self hi] at hj
      cases hj
      exact ⟨_, h1, h5⟩
    · rw [List.getElem?_set_ne e] at hj
      obtain ⟨w, h6, h7⟩ := R.fz j d hj
      exact ⟨w, h6, h7.same f.fs⟩
  · obtain ⟨e, hj⟩ := key hj
    obtain ⟨q, h6, h7, h8⟩ := R.ow j v hj
    have k : ∀ b, Has q v b → F' b = none := fun b hb => by
      rw [f.ne b fun z => e (R.sep i j o v b h hj ⟨p, h1, z⟩ ⟨q, h6, hb⟩)]
      exact (h8.has h7 b hb).1
    exact ⟨q, h6, k q .self, h8.same f.fs rfl fun b hb => ⟨rfl, k b (.inr hb)⟩⟩
  · by_cases e : i = j
    · subst e
      rw [List.getElem?_set_self hi] at hj
      cases hj
    · rw [List.getElem?_set_ne e] at hj
      exact (R.ex j a C ks vs hj).imp id fun ⟨cl, d, h2, h3⟩ => ⟨cl, d, h2, h3.same f.fs⟩
  · rcases f.fn b v hb with z | z
    · exact .inl z
    · exact .inr (.inr ⟨i, o, h, p, h1, z⟩)
  · cases q : F b with
    | none => rfl
    | some v => rw [f.fs _ _ q] at hb; cases hb
/-- a new value for slot i, in both -/
theorem Rel.setFz (R : Rel M c F H σ env) {i : Nat} {v : V} {d : D} (hi : i ∉ c.pn) (hl : i < σ.length) (r : Rep M F v d) : Rel M c F H (σ.set i (some v)) (env.set i (some (.fz d))) := by
  have hl' : i < env.length := by rw [R.len]; exact hl
  refine ⟨R.sub, by rw [List.length_set, List.length_set]; exact R.len, fun j e hj => ?_, fun j o hj => ?_, fun j a C ks vs hj => ?_, fun j k o u p hj hk => ?_, fun j hj => ?_, R.old, fun j o p hj hn hp => ?_, fun j o b hj hb => ?_, R.oldN⟩
  · by_cases e : i = j
    · subst e
      rw [List.getElem?_set_self hl'] at hj
      cases hj
      exact ⟨v, List.getElem?_set_self hl, r⟩
    · rw [List.getElem?_set_ne e] at hj ⊢
      exact R.fz j _ hj
  · by_cases e : i = j
    · subst e
      rw [List.getElem?_set_self hl'] at hj
      cases hj
    · rw [List.getElem?_set_ne e] at hj ⊢
      exact R.ow j _ hj
  · by_cases e : i = j
    · subst e
      rw [List.getElem?_set_self hl'] at hj
      cases hj
    · rw [List.getElem?_set_ne e] at hj ⊢
      exact R.ex j a C ks vs hj
  · by_cases e : i = j
    · subst e
      rw [List.getElem?_set_self hl'] at hj
      cases hj
    · by_cases e2 : i = k
      · subst e2
        rw [List.getElem?_set_self hl'] at hk
        cases hk
      · rw [List.getElem?_set_ne e] at hj ⊢
        rw [List.getElem?_set_ne e2] at hk ⊢
        exact R.sep j k o u p hj hk
  · have e : i ≠ j := fun z => hi (z ▸ hj)
    rw [List.getElem?_set_ne e]
    exact R.pin j hj
  · by_cases e : i = j
    · subst e
      rw [List.getElem?_set_self hl'] at hj
      cases hj
    · rw [List.getElem?_set_ne e] at hj hp
      exact R.fr j o p hj hn hp
  · by_cases e : i = j
    · subst e
      rw [List.getElem?_set_self hl'] at hj
      cases hj
    · rw [List.getElem?_set_ne e] at hj
      exact R.frN j o b hj hb
theorem own_setFz {i : Nat} {v : V} {d : D} : ∀ b, Own (σ.set i (some v)) (env.set i (some (.fz d))) b → Own σ env b := fun b ⟨j, o, h1, h2⟩ => by
  by_cases e : i = j
  · subst e
    by_cases hl : i < env.length
    · rw [List.getElem?_set_self hl] at h1; cases h1
    · rw [List.getElem?_eq_none (by rw [List.length_set]; omega)] at h1; cases h1
  · rw [List.getElem?_set_ne e] at h1 h2
    exact ⟨j, o, h1, h2⟩
/-- slot i gets an owned object that none owns -/
theorem Rel.setOw (R : Rel M c F H σ env) {i : Nat} {p : Addr} {o : O} (hi : i ∉ c.pn) (hl : i < σ.length) (hp : F p = none) (r : ORep M F H p o) (hn : ∀ b, Has p o b → ¬ Own σ env b) (h0 : c.h₀ p = none) (hN : ∀ b ∈ o.inn, c.hN b = none ∧ c.h₀ b = none) : Rel M c F H (σ.set i (some (.ref p))) (env.set i (some (.ow o))) := by
  have hl' : i < env.length := by rw [R.len]; exact hl
  refine ⟨R.sub, by rw [List.length_set, List.length_set]; exact R.len, fun j e hj => ?_, fun j o' hj => ?_, fun j a C ks vs hj => ?_, fun j k o' u q hj hk hj' hk' => ?_, fun j hj => ?_, R.old, fun j o' q hj hn' hq => ?_, fun j o' b hj hb => ?_, R.oldN⟩
  · by_cases e : i = j
    · subst e
      rw [List.getElem?_set_self hl'] at hj
      cases hj
    · rw [List.getElem?_set_ne e] at hj ⊢
      exact R.fz j _ hj
  · by_cases e : i = j
    · subst e
      rw [List.getElem?_set_self hl'] at hj
      cases hj
      exact ⟨p, List.getElem?_set_self hl, hp, r⟩
    · rw [List.getElem?_set_ne e] at hj ⊢
      exact R.ow j _ hj
  · by_cases e : i = j
    · subst e
      rw [List.getElem?_set_self hl'] at hj
      cases hj
    · rw [List.getElem?_set_ne e] at hj ⊢
      exact R.ex j a C ks vs hj
  · by_cases e : i = j
    · subst e
      by_cases e2 : i = k
      · exact e2
      · rw [List.getElem?_set_ne e2] at hk hk'
        rw [List.getElem?_set_self hl] at hj'
        rw [List.getElem?_set_self hl'] at hj
        cases hj
        obtain ⟨p', hj1, hj2⟩ := hj'
        cases hj1
        exact absurd ⟨k, u, hk, hk'⟩ (hn _ hj2)
    · by_cases e2 : i = k
      · subst e2
        rw [List.getElem?_set_ne e] at hj hj'
        rw [List.getElem?_set_self hl] at hk'
        rw [List.getElem?_set_self hl'] at hk
        cases hk
        obtain ⟨p', hk1, hk2⟩ := hk'
        cases hk1
        exact absurd ⟨j, o', hj, hj'⟩ (hn _ hk2)
      · rw [List.getElem?_set_ne e] at hj hj'
        rw [List.getElem?_set_ne e2] at hk hk'
        exact R.sep j k o' u q hj hk hj' hk'
  · have e : i ≠ j := fun z => hi (z ▸ hj)
    rw [List.getElem?_set_ne e]
    exact R.pin j hj
  · by_cases e : i = j
    · subst e
      rw [List.getElem?_set_self hl] at hq
      cases hq
      exact h0
    · rw [List.getElem?_set_ne e] at hj hq
      exact R.fr j o' q hj hn' hq
  · by_cases e : i = j
    · subst e
      rw [List.getElem?_set_self hl'] at hj
      cases hj
      exact hN b hb
    · rw [List.getElem?_set_ne e] at hj
      exact R.frN j o' b hj hb
theorem own_setOw {i : Nat} {p : Addr} {o : O} : ∀ b, Own (σ.set i (some (.ref p))) (env.set i (some (.ow o))) b → Own σ env b ∨ Has p o b := fun b ⟨j, o', h1, h2⟩ => by
  by_cases e : i = j
  · subst e
    obtain ⟨p', h2, h3⟩ := h2
    by_cases hl : i < σ.length
    · rw [List.getElem?_set_self hl] at h2
      cases h2
      by_cases hl' : i < env.length
      · rw [List.getElem?_set_self hl'] at h1
        cases h1
        exact .inr h3
      · rw [List.getElem?_eq_none (by rw [List.length_set]; omega)] at h1; cases h1
    · rw [List.getElem?_eq_none (by rw [List.length_set]; omega)] at h2; cases h2
  · rw [List.getElem?_set_ne e] at h1 h2
    exact .inl ⟨j, o', h1, h2⟩
/-- slot i forgotten by the environment -/
theorem Rel.forget (R : Rel M c F H σ env) (i : Nat) : Rel M c F H σ (env.set i none) := by
  have key : ∀ {j : Nat} {v : Val}, (env.set i none)[j]? = some (some v) → env[j]? = some (some v) := fun {j v} h => by
    by_cases e : i = j
    · subst e
      by_cases hl : i < env.length
      · rw [List.getElem?_set_self hl] at h; cases h
      · rw [List.getElem?_eq_none (by rw [List.length_set]; omega)] at h; cases h
    · rw [List.getElem?_set_ne e] at h; exact h
  exact ⟨R.sub, by rw [List.length_set]; exact R.len, fun j d h => R.fz j d (key h), fun j o h => R.ow j o (key h), fun j a C ks vs h => R.ex j a C ks vs (key h), fun j k o u p h1 h2 => R.sep j k o u p (key h1) (key h2), R.pin, R.old, fun j o p h => R.fr j o p (key h), fun j o b h => R.frN j o b (key h), R.oldN⟩
theorem own_forget {i : Nat} : ∀ b, Own σ (env.set i none) b → Own σ env b := fun b ⟨j, o, h1, h2⟩ => by
  by_cases e : i = j
  · subst e
    by_cases hl : i < env.length
    · rw [List.getElem?_set_self hl] at h1; cases h1
    · rw [List.getElem?_eq_none (by rw [List.length_set]; omega)] at h1; cases h1
  · rw [List.getElem?_set_ne e] at h1
    exact ⟨j, o, h1, h2⟩
/-- slot i's owned object is written: from o to o', at p or within -/
theorem Rel.writeG (R : Rel M c F H σ env) {i : Nat} {p b0 : Addr} {o o' : O} {u : HO} (h : env[i]? = some (some (.ow o))) (hp : σ[i]? = some (some (.ref p))) (hb0 : Has p o b0) (hin : ∀ b ∈ o'.inn, b ∈ o.inn) (r : ORep M F (upd H b0 u) p o') :
    Rel M c F (upd H b0 u) σ (env.set i (some (.ow o'))) ∧ Evo (Own σ env) (Own σ (env.set i (some (.ow o')))) F H F (upd H b0 u) := by
  have hi : i < env.length := (List.getElem?_eq_some_iff.mp h).1
  obtain ⟨q, h1, h2, h3⟩ := R.ow i o h
  rw [hp] at h1; cases h1
  have hb0F : F b0 = none := (h3.has h2 b0 hb0).1
  have hs : Same F (upd H b0 u) := fun b v hb => by
    have hb' : b ≠ b0 := fun z => by rw [z, hb0F] at hb; cases hb
    rw [upd_ne hb']; exact R.sub _ _ hb
  have hhas : ∀ {q b}, Has q o' b → Has q o b := fun {q b} z => z.imp id fun z => hin _ z
  have back : ∀ {j : Nat} {v : O}, (env.set i (some (.ow o')))[j]? = some (some (.ow v)) → ∃ v', env[j]? = some (some (.ow v')) ∧ ∀ q b, Has q v b → Has q v' b := fun {j v} hj => by
    by_cases e : i = j
    · subst e
      rw [List.getElem?_set_self hi] at hj
      cases hj
      exact ⟨o, h, fun q b z => hhas z⟩
    · rw [List.getElem?_set_ne e] at hj; exact ⟨v, hj, fun _ _ z => z⟩
  have own : ∀ b, Own σ (env.set i (some (.ow o'))) b → Own σ env b := fun b ⟨j, v, h6, p', h7, h8⟩ => by
    obtain ⟨v', h9, h10⟩ := back h6
    exact ⟨j, v', h9, p', h7, h10 _ _ h8⟩
  refine ⟨⟨hs, by rw [List.length_set]; exact R.len, fun j d hj => ?_, fun j v hj => ?_, fun j a C ks vs hj => ?_, fun j k v w q hj hk ⟨p1, hj1, hj2⟩ ⟨p2, hk1, hk2⟩ => ?_, R.pin, fun b v hb => ?_, fun j v q hj hn hq => ?_, fun j v b hj hb => ?_, fun b v hb => ?_⟩, ⟨Same.refl _, fun b v hb => .inl hb, fun b v hb hn => ?_, fun b v hb => ?_, fun b hb => .inl (own b hb)⟩⟩
  · by_cases e : i = j
    · subst e
      rw [List.getElem?_set_self hi] at hj
      cases hj
    · rw [List.getElem?_set_ne e] at hj
      exact R.fz j d hj
  · by_cases e : i = j
    · subst e
      rw [List.getElem?_set_self hi] at hj
      cases hj
      exact ⟨p, hp, h2, r⟩
    · rw [List.getElem?_set_ne e] at hj
      obtain ⟨q, h6, h7, h8⟩ := R.ow j v hj
      have hq : ∀ b, Has q v b → b ≠ b0 := fun b hb z => e (R.sep i j _ _ b0 h hj ⟨p, hp, hb0⟩ ⟨q, h6, z ▸ hb⟩)
      exact ⟨q, h6, h7, h8.same (Same.refl _) (upd_ne (hq q .self)) fun b hb => ⟨upd_ne (hq b (.inr hb)), (h8.inner b hb).1⟩⟩
  · by_cases e : i = j
    · subst e
      rw [List.getElem?_set_self hi] at hj
      cases hj
    · rw [List.getElem?_set_ne e] at hj
      exact R.ex j a C ks vs hj
  · obtain ⟨v', hj3, hj4⟩ := back hj
    obtain ⟨w', hk3, hk4⟩ := back hk
    exact R.sep j k v' w' q hj3 hk3 ⟨p1, hj1, hj4 _ _ hj2⟩ ⟨p2, hk1, hk4 _ _ hk2⟩
  · obtain ⟨u', hu⟩ := R.old b v hb
    by_cases e : b = b0
    · exact ⟨u, by rw [e]; exact upd_same⟩
    · exact ⟨u', by rw [upd_ne e]; exact hu⟩
  · obtain ⟨v', hj3, hj4⟩ := back hj
    exact R.fr j v' q hj3 hn hq
  · by_cases e : i = j
    · subst e
      rw [List.getElem?_set_self hi] at hj
      cases hj
      exact R.frN i o b h (hin b hb)
    · rw [List.getElem?_set_ne e] at hj
      exact R.frN j v b hj hb
  · obtain ⟨u', hu⟩ := R.oldN b v hb
    by_cases e : b = b0
    · exact ⟨u, by rw [e]; exact upd_same⟩
    · exact ⟨u', by rw [upd_ne e]; exact hu⟩
  · have : b ≠ b0 := fun z => hn ⟨i, o, h, p, hp, z ▸ hb0⟩
    rw [upd_ne this]; exact hb
  · by_cases e : b = b0
    · subst e; exact ⟨u, upd_same⟩
    · exact ⟨v, by rw [upd_ne e]; exact hb⟩
theorem Rel.write (R : Rel M c F H σ env) {i : Nat} {p : Addr} {o o' : O} {u : HO} (h : env[i]? = some (some (.ow o))) (hp : σ[i]? = some (some (.ref p))) (r : ORep M F (upd H p u) p o') (hin : o'.inn = [] := by rfl) :
    Rel M c F (upd H p u) σ (env.set i (some (.ow o'))) ∧ Evo (Own σ env) (Own σ (env.set i (some (.ow o')))) F H F (upd H p u) := R.writeG h hp .self (fun b hb => by rw [hin] at hb; cases hb) r
/-- a temp that none owns is written -/
theorem Rel.tempW (R : Rel M c F H σ env) {D : Addr} {u : HO} (hF : F D = none) (hn : ¬ Own σ env D) : Rel M c F (upd H D u) σ env := by
  have ht : ∀ b, (∃ u', H b = some u') → ∃ u', upd H D u b = some u' := fun b ⟨u', hu⟩ => by
    by_cases hbd : b = D
    · exact ⟨_, by rw [hbd]; exact upd_same⟩
    · exact ⟨u', by rw [upd_ne hbd]; exact hu⟩
  refine ⟨fun b o hb => ?_, R.len, R.fz, fun j o hj => ?_, R.ex, R.sep, R.pin, fun b v hb => ht b (R.old b v hb), R.fr, R.frN, fun b v hb => ht b (R.oldN b v hb)⟩
  · have : b ≠ D := fun z => by rw [z, hF] at hb; cases hb
    rw [upd_ne this]; exact R.sub b o hb
  · obtain ⟨p, h1, h2, h3⟩ := R.ow j o hj
    have k : ∀ b, Has p o b → b ≠ D := fun b hb z => hn ⟨j, o, hj, p, h1, z ▸ hb⟩
    exact ⟨p, h1, h2, h3.same (Same.refl _) (upd_ne (k p .self)) fun b hb => ⟨upd_ne (k b (.inr hb)), (h3.inner b hb).1⟩⟩
end
end LV
namespace LV
open PySem PySem.Spec L2
abbrev mdX (X : Cx) : Md := ⟨X.K, X.mg, X.w⟩
def Vw (M : Md) (F H : Hp) (v : V) : D → Prop
  | .tup ds => ∃ a xs, v = .ref a ∧ SqT M.K F a xs ∧ RepL M F xs ds
  | .lst ds => ∃ a xs, v = .ref a ∧ H a = some (.lst xs) ∧ RepL M F xs ds
  | .scr ns => ∃ a, v = .ref a ∧ SqL M.K H a (ns.map V.int)
  | .dct ks ds => ∃ a, v = .ref a ∧ ORep M F H a (.dct ks ds)
  | .ins C ks ds => ∃ a, v = .ref a ∧ ORep M F H a (.ins C ks ds)
  | .cls C => ∃ a, v = .ref a ∧ M.mg C = some (.ref a)
  | .ptr a => v = .ref a
  | .exn C ks ds => ∃ a c, v = .ref a ∧ M.mg C = some (.ref c) ∧ ((∃ dx fv, F a = some (exo a c (some dx)) ∧ F dx = some (exd dx fv) ∧ fv.map (·.1) = ks ∧ RepL M F (fv.map (·.2)) ds) ∨ (F a = some (exo a c none) ∧ ks = [] ∧ ds = []))
  | .tpn ds => ∃ a o xs, v = .ref a ∧ F a = some (.frz o (.tup xs)) ∧ o.dict = none ∧ RepL M F xs ds
  | .non => v = .non
  | .bl b => v = .bl b
  | .int i => v = .int i
  | .str s => v = .str s
theorem Rep.vw {M : Md} {F H : Hp} {v : V} {d : D} (s : Same F H) (r : Rep M F v d) : Vw M F H v d := by
  cases r with
  | non => rfl
  | bl b => rfl
  | int i => rfl
  | str x => rfl
  | tup h r => exact ⟨_, _, rfl, h, r⟩
  | lst h r => exact ⟨_, _, rfl, s _ _ h, r⟩
  | scr h => exact ⟨_, rfl, s.seq h⟩
  | cls g => exact ⟨_, rfl, g⟩
  | ptr => rfl
  | tpn h n r => exact ⟨_, _, _, rfl, h, n, r⟩
  | dK h e r => subst e; exact ⟨_, rfl, .inl ⟨_, s _ _ h, rfl, r⟩⟩
  | dN h e1 e2 r1 e3 r2 => exact ⟨_, rfl, .inr ⟨_, _, s _ _ h, e1, e2, r1, e3, r2⟩⟩
  | exn g h1 h2 e r => subst e; exact ⟨_, _, rfl, g, .inl ⟨_, _, h1, h2, rfl, r⟩⟩
  | ex0 g h => exact ⟨_, _, rfl, g, .inr ⟨h, rfl, rfl⟩⟩
  | ins g h e r => subst e; exact ⟨_, rfl, _, _, _, g, s _ _ h, rfl, r⟩
theorem ORep.vw {M : Md} {F H : Hp} {p : Addr} {o : O} (hn : ∀ xs, o ≠ .nst xs) (r : ORep M F H p o) : Vw M F H (.ref p) o.d := by
  cases o with
  | nst xs => exact absurd rfl (hn xs)
  | lst ds => obtain ⟨xs, h, r⟩ := r; exact ⟨_, _, rfl, h, r⟩
  | dct ks ds => exact ⟨_, rfl, r⟩
  | ins C ks ds => exact ⟨_, rfl, r⟩
abbrev XW := Xn → En → Prop
abbrev EW := En → (Rv → En → Prop) → XW → Prop
structure Mono (w : EW) : Prop where
  mo : ∀ {env : En} {Q Q' : Rv → En → Prop} {E E' : XW}, (∀ r e, Q r e → Q' r e) → (∀ x e, E x e → E' x e) → w env Q E → w env Q' E'
/-- v is r, of an expression that began at H0 -/
def RvOk (M : Md) (F H H0 : Hp) (σ : St) (env : En) (v : V) : Rv → Prop
  | .fz d => Rep M F v d
  | .ow o => ∃ p, v = .ref p ∧ F p = none ∧ ORep M F H p o ∧ (∀ b, Has p o b → ¬ Own σ env b) ∧ ∀ b, Has p o b → H0 b = none
  | .sl i => σ[i]? = some (some v) ∧ ∃ o, env[i]? = some (some (.ow o))
def EPost (M : Md) (c : Ct) (F H : Hp) (σ : St) (env : En) (Qv : VK) : Rv → En → Prop := fun r env' =>
  ∀ v F' H', Rel M c F' H' σ env' → Evo (Own σ env) (Own σ env') F H F' H' → RvOk M F' H' H σ env' v r → Qv v H'
def XPost (M : Md) (c : Ct) (W : WX) (F H : Hp) (σ : St) (env : En) : XW := fun x env' =>
  ∀ cl d F' H', Rel M c F' H' σ env' → Evo (Own σ env) (Own σ env') F H F' H' → XOk M F' x cl d → W cl d σ H'
/-- the reading of w -/
def ERd (M : Md) (c : Ct) (W : WX) (w : EW) : TE := fun σ H Qv => ∃ F env, Rel M c F H σ env ∧ w env (EPost M c F H σ env Qv) (XPost M c W F H σ env)
structure SE (X : Cx) (c : Ct) (W : WX) (e : Expr) (w : EW) : Prop where
  pe : PE X e (ERd (mdX X) c W w)
  mo : Mono w
theorem PE.imp {X : Cx} {e : Expr} {t t' : TE} (h : PE X e t) (i : ∀ σ H Q, t' σ H Q → t σ H Q) : PE X e t' := ⟨fun pins s σ H Q I q => h.run pins s σ H Q I (i σ H Q q)⟩
theorem PT.imp {X : Cx} {e : Expr} {t t' : TT} (h : PT X e t) (i : ∀ σ H Q, t' σ H Q → t σ H Q) : PT X e t' := ⟨fun pins s σ H Q I q => h.run pins s σ H Q I (i σ H Q q)⟩
theorem PA.imp {X : Cx} {e : List Expr} {t t' : TA} (h : PA X e t) (i : ∀ σ H Q, t' σ H Q → t σ H Q) : PA X e t' := ⟨fun pos pins s σ H Q I q => h.run pos pins s σ H Q I (i σ H Q q)⟩
theorem PS.imp {X : Cx} {e : Stmt} {t t' : TS} (h : PS X e t) (i : ∀ D σ H, t' D σ H → t D σ H) : PS X e t' := ⟨fun pins s σ H D I q => h.run pins s σ H D I (i D σ H q)⟩
theorem PSs.imp {X : Cx} {e : List Stmt} {t t' : TS} (h : PSs X e t) (i : ∀ D σ H, t' D σ H → t D σ H) : PSs X e t' := ⟨fun pins s σ H D I q => h.run pins s σ H D I (i D σ H q)⟩
section
variable {M : Md} {c : Ct} {W : WX} {F H F1 H1 : Hp} {σ : St} {env env1 : En}
/-- the wishes carried over a first step -/
theorem EPost.step (e : Evo (Own σ env) (Own σ env1) F H F1 H1) {Qv : VK} {r : Rv} {env2 : En} (h : EPost M c F H σ env Qv r env2) : EPost M c F1 H1 σ env1 Qv r env2 := fun v F' H' R' e' ok =>
  h v F' H' R' (e.trans e') (by
    cases r with
    | fz d => exact ok
    | ow o => obtain ⟨p, a1, a2, a3, a4, a5⟩ := ok; exact ⟨p, a1, a2, a3, a4, fun b hb => e.noneOf (a5 b hb)⟩
    | sl i => exact ok)
theorem XPost.step (e : Evo (Own σ env) (Own σ env1) F H F1 H1) {x : Xn} {env2 : En} (h : XPost M c W F H σ env x env2) : XPost M c W F1 H1 σ env1 x env2 := fun cl d F' H' R' e' ok => h cl d F' H' R' (e.trans e') ok
theorem hO {σ : St} {env : En} {p : Addr} {o : O} (h : ¬ Own σ env p) (hi : o.inn = [] := by rfl) : ∀ b, Has p o b → ¬ Own σ env b := has1 (P := fun b => ¬ Own σ env b) hi h
theorem hH {H : Hp} {p : Addr} {o : O} (h : H p = none) (hi : o.inn = [] := by rfl) : ∀ b, Has p o b → H b = none := has1 (P := fun b => H b = none) hi h
/-- a temp is frozen -/
theorem Evo.frzTo {A A' : Addr → Prop} {F H F' H' F2 : Hp} {S : Addr → Prop} (e : Evo A A' F H F' H') (f : FrzTo F' H' F2 S) (h0 : ∀ b, S b → H b = none) : Evo A A' F H F2 H' :=
  ⟨e.fs.trans f.fs, fun b o h => by
    rcases f.fn b o h with h | h
    · exact e.fn b o h
    · exact .inr (.inl (h0 b h)), e.hk, e.ht, e.aa⟩
theorem temp_freeze {F' H' : Hp} {env' : En} {v : V} {o : O} (R' : Rel M c F' H' σ env') (ev : Evo (Own σ env) (Own σ env') F H F' H') (ok : ∃ p, v = .ref p ∧ F' p = none ∧ ORep M F' H' p o ∧ (∀ b, Has p o b → ¬ Own σ env' b) ∧ ∀ b, Has p o b → H b = none) :
    ∃ F2, Rel M c F2 H' σ env' ∧ Evo (Own σ env) (Own σ env') F H F2 H' ∧ Rep M F2 v o.d := by
  obtain ⟨p, rfl, a2, a3, a4, a5⟩ := ok
  obtain ⟨F2, f, rp⟩ := a3.freeze R'.sub a2
  exact ⟨F2, R'.frzTo f a4, ev.frzTo f a5, rp⟩
end
/-- a temp made data -/
def Rv.frz : Rv → Rv
  | .ow o => .fz o.d
  | r => r
def wFz (w : EW) : EW := fun env Q E => w env (fun r e => Q r.frz e) E
theorem Mono.fz {w : EW} (m : Mono w) : Mono (wFz w) := ⟨fun hQ hE h => m.mo (fun r e q => hQ _ _ q) hE h⟩
section
variable {X : Cx} {c : Ct} {W : WX} {e a b : Expr} {w wa wb : EW}
theorem ERd.fz {M : Md} (m : Mono w) {σ : St} {H : Hp} {Q : VK} (h : ERd M c W (wFz w) σ H Q) : ERd M c W w σ H Q := by
  obtain ⟨F, env, R, h⟩ := h
  refine ⟨F, env, R, m.mo (fun r e q => ?_) (fun _ _ q => q) h⟩
  intro v F' H' R' ev ok
  cases r with
  | fz d => exact q v F' H' R' ev ok
  | sl i => exact q v F' H' R' ev ok
  | ow o =>
    obtain ⟨F2, R2, ev2, rp⟩ := temp_freeze R' ev ok
    exact q _ F2 H' R2 ev2 rp
theorem SE.fz (h : SE X c W e w) : SE X c W e (wFz w) := ⟨PE.imp h.pe fun σ H Q q => ERd.fz h.mo q, h.mo.fz⟩
/-- an operand's value: data or a slot's object -/
def look (env : En) : Rv → Option D
  | .fz d => some d
  | .ow o => some o.d
  | .sl i => match env[i]? with
    | some (some (.ow (.nst _))) => none
    | some (some (.ow o)) => some o.d
    | some (some (.fz d)) => some d
    | _ => none
/-- what an operand is, later on -/
def OpOk (M : Md) (F : Hp) (σ : St) (v : V) : Rv → Prop
  | .fz d => Rep M F v d
  | .ow _ => False
  | .sl i => σ[i]? = some (some v)
theorem OpOk.same {M : Md} {F F' : Hp} {σ : St} {v : V} {r : Rv} (s : Same F F') (h : OpOk M F σ v r) : OpOk M F' σ v r := by
  cases r with
  | fz d => exact Rep.same s h
  | ow o => exact h
  | sl i => exact h
theorem OpOk.vw {M : Md} {F H : Hp} {σ : St} {env : En} {v : V} {r : Rv} {d : D} (R : Rel M c F H σ env) (h : OpOk M F σ v r) (l : look env r = some d) : Vw M F H v d := by
  cases r with
  | fz e => cases l; exact Rep.vw R.sub h
  | ow o => exact h.elim
  | sl i =>
    have h' : σ[i]? = some (some v) := h
    cases he : env[i]? with
    | none => simp only [look, he] at l; cases l
    | some x =>
      cases x with
      | none => simp only [look, he] at l; cases l
      | some y =>
        cases y with
        | fz e =>
          simp only [look, he] at l
          cases l
          obtain ⟨u, h1, h2⟩ := R.fz i _ he
          rw [h'] at h1; cases h1
          exact Rep.vw R.sub h2
        | ow o =>
          obtain ⟨p, h1, _, h3⟩ := R.ow i o he
          rw [h'] at h1; cases h1
          cases o with
          | nst xs => simp only [look, he] at l; cases l
          | _ =>
            simp only [look, he] at l
            cases l
            exact h3.vw (fun _ z => nomatch z)
        | ex _ _ _ _ => simp only [look, he] at l; cases l
/-- a primitive's result, from (F, H) -/
def NOk (M : Md) (F' H' H : Hp) (v : V) : Rv → Prop
  | .fz d => Rep M F' v d
  | .ow o => ∃ p, v = .ref p ∧ F' p = none ∧ ORep M F' H' p o ∧ ∀ b, Has p o b → H b = none
  | .sl _ => False
def NPost (M : Md) (F H : Hp) (Qv : VK) : Rv → Prop := fun r => ∀ v F' H', Same F' H' → Evo Nob Nob F H F' H' → NOk M F' H' H v r → Qv v H'
theorem NPost.of {M : Md} {c : Ct} {F H : Hp} {σ : St} {env : En} {Qv : VK} {r : Rv} (R : Rel M c F H σ env) (h : EPost M c F H σ env Qv r env) : NPost M F H Qv r := fun v F' H' s e ok => by
  have R' := R.evo e s
  refine h v F' H' R' e.nob ?_
  cases r with
  | fz d => exact ok
  | sl i => exact ok.elim
  | ow o =>
    obtain ⟨p, a1, a2, a3, a4⟩ := ok
    refine ⟨p, a1, a2, a3, fun b hb z => ?_, a4⟩
    obtain ⟨u, hu⟩ := R.own_some z
    rw [a4 b hb] at hu; cases hu
theorem NPost.here {M : Md} {F H : Hp} {Qv : VK} {d : D} {v : V} (h : NPost M F H Qv (.fz d)) (s : Same F H) (r : Rep M F v d) : Qv v H := h v F H s Evo.refl r
theorem NPost.newT {M : Md} {F H : Hp} {Qv : VK} {ds : List D} {xs : List V} (h : NPost M F H Qv (.fz (.tup ds))) (s : Same F H) (r : RepL M F xs ds) {p : Addr} (hp : H p = none) : Qv (.ref p) (upd H p (.tup xs)) :=
  h _ (upd F p (.tup xs)) _ (same_newF s hp) (Evo.newF hp (s.free hp)) (.tup (.inl (.inl upd_same)) (r.same (same_upd (s.free hp))))
theorem NPost.newL {M : Md} {F H : Hp} {Qv : VK} {ds : List D} {xs : List V} (h : NPost M F H Qv (.ow (.lst ds))) (s : Same F H) (r : RepL M F xs ds) {p : Addr} (hp : H p = none) : Qv (.ref p) (upd H p (.lst xs)) :=
  h _ F _ (same_newO s hp) (Evo.newO hp) ⟨p, rfl, s.free hp, ⟨xs, upd_same, r⟩, has1 (P := fun b => H b = none) rfl hp⟩
abbrev G2 := D → D → (Rv → Prop) → Prop
structure Mono2 (g : G2) : Prop where
  mo : ∀ {a b : D} {Q Q' : Rv → Prop}, (∀ r, Q r → Q' r) → g a b Q → g a b Q'
structure VR2 (X : Cx) (f : Value → Value → Sem Value) (g : G2) : Prop where
  ok : OpR X f (fun x y H Qv => ∃ F da db, Same F H ∧ Vw (mdX X) F H x da ∧ Vw (mdX X) F H y db ∧ g da db (NPost (mdX X) F H Qv))
  mo : Mono2 g
def wOp2 (g : G2) (wa wb : EW) : EW := fun env Q E => wFz wa env (fun ra env1 => wFz wb env1 (fun rb env2 => ∃ da db, look env2 ra = some da ∧ look env2 rb = some db ∧ g da db (fun r => Q r env2)) E) E
theorem Mono.op2 {g : G2} (mg : Mono2 g) (ma : Mono wa) (mb : Mono wb) : Mono (wOp2 g wa wb) := ⟨fun hQ hE h => ma.fz.mo (fun ra e1 q => mb.fz.mo (fun rb e2 ⟨da, db, l1, l2, q⟩ => ⟨da, db, l1, l2, mg.mo (fun r z => hQ _ _ z) q⟩) hE q) hE h⟩
/-- an operand: what is needed behind it -/
theorem opd {M : Md} {F H : Hp} {env : En} {σ : St} {K : Rv → En → Prop} {Qv : VK} (ma : Mono wa) (R : Rel M c F H σ env) (h : wFz wa env K (XPost M c W F H σ env))
    (k : ∀ r env' v F' H', Rel M c F' H' σ env' → Evo (Own σ env) (Own σ env') F H F' H' → OpOk M F' σ v r → K r env' → Qv v H') : ERd M c W wa σ H Qv := by
  refine ⟨F, env, R, ma.mo (fun r e q => ?_) (fun _ _ z => z) h⟩
  intro v F' H' R' ev ok
  cases r with
  | fz d => exact k (.fz d) _ v F' H' R' ev ok q
  | sl i => exact k (.sl i) _ v F' H' R' ev ok.1 q
  | ow o =>
    obtain ⟨F2, R2, ev2, rp⟩ := temp_freeze R' ev ok
    exact k (.fz o.d) _ _ F2 H' R2 ev2 rp q
theorem opd2 {M : Md} {F H : Hp} {env : En} {σ : St} {K : Rv → Rv → En → Prop} {Rv2 : V → V → Hp → Prop} (ma : Mono wa) (mb : Mono wb) (R : Rel M c F H σ env)
    (h : wFz wa env (fun ra env1 => wFz wb env1 (K ra) (XPost M c W F H σ env)) (XPost M c W F H σ env))
    (k : ∀ ra rb env' x y F' H', Rel M c F' H' σ env' → Evo (Own σ env) (Own σ env') F H F' H' → OpOk M F' σ x ra → OpOk M F' σ y rb → K ra rb env' → Rv2 x y H') :
    ERd M c W wa σ H fun x H1 => ERd M c W wb σ H1 fun y H2 => Rv2 x y H2 :=
  opd ma R h fun ra env1 x F1 H1 R1 e1 ok1 q => opd mb R1 (mb.fz.mo (fun _ _ z => z) (fun _ _ z => XPost.step e1 z) q) fun rb env2 y F2 H2 R2 e2 ok2 q2 =>
    k ra rb env2 x y F2 H2 R2 (e1.trans e2) (ok1.same e2.fs) ok2 q2
theorem se_op {op : Operator} {g : G2} {pos : Pos} (ho : VR2 X (binaryOp op) g) (ha : SE X c W a wa) (hb : SE X c W b wb) : SE X c W (.BinOp a op b pos) (wOp2 g wa wb) := by
  refine ⟨PE.imp (pe_op ho.ok ha.pe hb.pe) fun σ H Q h => ?_, .op2 ho.mo ha.mo hb.mo⟩
  obtain ⟨F, env, R, h⟩ := h
  refine opd2 ha.mo hb.mo R h fun ra rb env' x y F' H' R' e o1 o2 q => ?_
  obtain ⟨da, db, l1, l2, q⟩ := q
  exact ⟨F', da, db, R'.sub, o1.vw R' l1, o2.vw R' l2, ho.mo.mo (fun r z => NPost.of R' (EPost.step e z)) q⟩
theorem se_cmp {op : CmpOp} {g : G2} {pos : Pos} (ho : VR2 X (compareOp op) g) (ha : SE X c W a wa) (hb : SE X c W b wb) (hm : behindInMarks op b = false) : SE X c W (.Compare a [op] [b] pos) (wOp2 g wa wb) := by
  refine ⟨PE.imp (pe_cmpR ho.ok ha.pe hb.pe hm) fun σ H Q h => ?_, .op2 ho.mo ha.mo hb.mo⟩
  obtain ⟨F, env, R, h⟩ := h
  refine opd2 ha.mo hb.mo R h fun ra rb env' x y F' H' R' e o1 o2 q => ?_
  obtain ⟨da, db, l1, l2, q⟩ := q
  exact ⟨F', da, db, R'.sub, o1.vw R' l1, o2.vw R' l2, ho.mo.mo (fun r z => NPost.of R' (EPost.step e z)) q⟩
def wVar (i : Nat) : EW := fun env Q _ => match env[i]? with
  | some (some (.fz d)) => Q (.fz d) env
  | some (some (.ow _)) => Q (.sl i) env
  | _ => False
theorem Mono.var {i : Nat} : Mono (wVar i) := ⟨fun {env Q Q' E E'} hQ hE h => by
  unfold wVar at h ⊢
  split at h
  · exact hQ _ _ h
  · exact hQ _ _ h
  · exact h⟩
theorem se_var {i : Nat} {x : Str} {pos : Pos} (hN : X.N[i]? = some x := by rfl) (hv : Vis X.env.scope x := by first | exact Or.inl rfl | exact Or.inr (Or.inl rfl) | exact Or.inr (Or.inr rfl)) (hd : (x == ("__debug__" : Str)) = false := by decide)
    (hcd : (x == ("__classdict__" : Str)) = false := by decide) : SE X c W (.Name x pos) (wVar i) := by
  refine ⟨PE.imp (pe_var hN hv hd hcd) fun σ H Q h => ?_, .var⟩
  obtain ⟨F, env, R, h⟩ := h
  unfold wVar at h
  split at h
  · rename_i d hd
    obtain ⟨v, h1, h2⟩ := R.fz i d hd
    exact ⟨v, h1, h v F H R Evo.refl h2⟩
  · rename_i o ho
    obtain ⟨p, h1, h2, h3⟩ := R.ow i o ho
    exact ⟨_, h1, h _ F H R Evo.refl ⟨h1, o, ho⟩⟩
  · exact h.elim
def wC (d : D) : EW := fun env Q _ => Q (.fz d) env
theorem Mono.C {d : D} : Mono (wC d) := ⟨fun hQ _ h => hQ _ _ h⟩
theorem se_const {v : V} {d : D} (h : PE X e (tC v)) (r : ∀ F, Rep (mdX X) F v d) : SE X c W e (wC d) := by
  refine ⟨PE.imp h fun σ H Q h => ?_, .C⟩
  obtain ⟨F, env, R, h⟩ := h
  exact h v F H R Evo.refl (r F)
theorem se_int {i j pos} : SE X c W (.Constant (.int i) j pos) (wC (.int i)) := se_const pe_int fun _ => .int i
theorem se_bl {i j pos} : SE X c W (.Constant (.bool i) j pos) (wC (.bl i)) := se_const pe_bl fun _ => .bl i
theorem se_non {j pos} : SE X c W (.Constant .none j pos) (wC .non) := se_const pe_non fun _ => .non
end
end LV
namespace LV
open PySem PySem.Spec L2
abbrev TW := En → (Bool → En → Prop) → XW → Prop
structure MonoT (w : TW) : Prop where
  mo : ∀ {env : En} {Q Q' : Bool → En → Prop} {E E' : XW}, (∀ r e, Q r e → Q' r e) → (∀ x e, E x e → E' x e) → w env Q E → w env Q' E'
def TPost (M : Md) (c : Ct) (F H : Hp) (σ : St) (env : En) (Qb : Bool → Hp → Prop) : Bool → En → Prop := fun b env' =>
  ∀ F' H', Rel M c F' H' σ env' → Evo (Own σ env) (Own σ env') F H F' H' → Qb b H'
theorem TPost.step {M : Md} {c : Ct} {F H F1 H1 : Hp} {σ : St} {env env1 : En} (e : Evo (Own σ env) (Own σ env1) F H F1 H1) {Qb : Bool → Hp → Prop} {r : Bool} {env2 : En} (h : TPost M c F H σ env Qb r env2) : TPost M c F1 H1 σ env1 Qb r env2 :=
  fun F' H' R' e' => h F' H' R' (e.trans e')
def TRd (M : Md) (c : Ct) (W : WX) (w : TW) : TT := fun σ H Qb => ∃ F env, Rel M c F H σ env ∧ w env (TPost M c F H σ env Qb) (XPost M c W F H σ env)
structure ST (X : Cx) (c : Ct) (W : WX) (e : Expr) (w : TW) : Prop where
  pt : PT X e (TRd (mdX X) c W w)
  mo : MonoT w
structure SPW (X : Cx) (c : Ct) (W : WX) (e : Expr) (w : TW) : Prop where
  pt : PW X e (TRd (mdX X) c W w)
  mo : MonoT w
theorem PW.imp {X : Cx} {e : Expr} {t t' : TT} (h : PW X e t) (i : ∀ σ H Q, t' σ H Q → t σ H Q) : PW X e t' := ⟨fun wh pins s σ H Q I q => h.run wh pins s σ H Q I (i σ H Q q)⟩
/-- an expression's value that must be True or False -/
def wB (w : EW) : TW := fun env Q E => w env (fun r e => ∃ b, r = .fz (.bl b) ∧ Q b e) E
theorem MonoT.B {w : EW} (m : Mono w) : MonoT (wB w) := ⟨fun hQ hE h => m.mo (fun r e ⟨b, e1, q⟩ => ⟨b, e1, hQ _ _ q⟩) hE h⟩
/-- a value's truth -/
def truD : D → Bool → Prop
  | .non, k => k = false
  | .bl b, k => k = b
  | .int i, k => k = (i != 0)
  | .str s, k => s.length ≤ sizeLine ∧ k = ((s.length : Int) != 0)
  | .tup ds, k => k = !ds.isEmpty
  | .lst ds, k => k = !ds.isEmpty
  | .scr ns, k => k = !ns.isEmpty
  | _, _ => False
def wTru (w : EW) : TW := fun env Q E => wFz w env (fun r e => ∃ d k, look e r = some d ∧ truD d k ∧ Q k e) E
theorem MonoT.tru {w : EW} (m : Mono w) : MonoT (wTru w) := ⟨fun hQ hE h => m.fz.mo (fun r e ⟨d, k, l, t, q⟩ => ⟨d, k, l, t, hQ _ _ q⟩) hE h⟩
theorem isEmpty_rep {M : Md} {F : Hp} {xs : List V} {ds : List D} (r : RepL M F xs ds) : xs.isEmpty = ds.isEmpty := by cases r <;> rfl
theorem truV_of {M : Md} {F H : Hp} {v : V} {d : D} {k : Bool} (sm : Same F H) (h : Vw M F H v d) (t : truD d k) : TruV M.K v H k := by
  cases d with
  | non => cases (show v = .non from h); exact t
  | bl b => cases (show v = .bl b from h); exact t
  | int i => cases (show v = .int i from h); exact t
  | str s => cases (show v = .str s from h); exact t
  | tup ds => obtain ⟨a, xs, rfl, q, r⟩ := h; exact .inr (.inl ⟨xs, Same.sqT sm q, by rw [isEmpty_rep r]; exact t⟩)
  | lst ds => obtain ⟨a, xs, rfl, q, r⟩ := h; exact .inl ⟨xs, .inl (.inl q), by rw [isEmpty_rep r]; exact t⟩
  | scr ns => obtain ⟨a, rfl, q⟩ := h; exact .inl ⟨_, q, by rw [show (ns.map V.int).isEmpty = ns.isEmpty by cases ns <;> rfl]; exact t⟩
  | dct _ _ => exact t.elim
  | ins _ _ _ => exact t.elim
  | cls _ => exact t.elim
  | ptr _ => exact t.elim
  | exn _ _ _ => exact t.elim
  | tpn _ => exact t.elim
section
variable {X : Cx} {c : Ct} {W : WX} {e a b d : Expr} {w wa wb wd : EW} {u ua ub : TW} {pos : Pos} {es rest : List Expr}
theorem TRd.post {M : Md} {F H F1 H1 : Hp} {σ : St} {env env1 : En} {Qb : Bool → Hp → Prop} (m : MonoT u) (R : Rel M c F1 H1 σ env1) (e : Evo (Own σ env) (Own σ env1) F H F1 H1)
    (h : u env1 (TPost M c F H σ env Qb) (XPost M c W F H σ env)) : TRd M c W u σ H1 Qb :=
  ⟨F1, env1, R, m.mo (fun _ _ z => TPost.step e z) (fun _ _ z => XPost.step e z) h⟩
theorem ERd.post {M : Md} {F H F1 H1 : Hp} {σ : St} {env env1 : En} {Qv : VK} (m : Mono w) (R : Rel M c F1 H1 σ env1) (e : Evo (Own σ env) (Own σ env1) F H F1 H1)
    (h : w env1 (EPost M c F H σ env Qv) (XPost M c W F H σ env)) : ERd M c W w σ H1 Qv :=
  ⟨F1, env1, R, m.mo (fun _ _ z => EPost.step e z) (fun _ _ z => XPost.step e z) h⟩
theorem st_tru (h : SE X c W e w) (he : ∀ whole, isTrue e X.env whole = (do let v ← whole; standAt e.pos; holding [v] (truthy v)) := by intro _; rfl) : ST X c W e (wTru w) := by
  refine ⟨PT.imp (pt_truth h.pe he) fun σ H Q q => ?_, .tru h.mo⟩
  obtain ⟨F, env, R, q⟩ := q
  refine opd h.mo R q fun r env' v F' H' R' ev ok ⟨d, k, l, t, q⟩ => ?_
  exact ⟨k, truV_of R'.sub (ok.vw R' l) t, q F' H' R' ev⟩
theorem st_cmp {op : CmpOp} {g : G2} (ho : VR2 X (compareOp op) g) (ha : SE X c W a wa) (hb : SE X c W b wb) (hm : behindInMarks op b = false) : ST X c W (.Compare a [op] [b] pos) (wB (wOp2 g wa wb)) := by
  refine ⟨PT.imp (pt_cmpR ho.ok ha.pe hb.pe hm) fun σ H Q h => ?_, .B (.op2 ho.mo ha.mo hb.mo)⟩
  obtain ⟨F, env, R, h⟩ := h
  refine opd2 (K := fun ra rb env2 => ∃ da db, look env2 ra = some da ∧ look env2 rb = some db ∧ g da db (fun r => ∃ b, r = .fz (.bl b) ∧ TPost (mdX X) c F H σ env Q b env2)) ha.mo hb.mo R h fun ra rb env' x y F' H' R' e o1 o2 q => ?_
  obtain ⟨da, db, l1, l2, q⟩ := q
  refine ⟨F', da, db, R'.sub, o1.vw R' l1, o2.vw R' l2, ho.mo.mo (fun r z => ?_) q⟩
  obtain ⟨k, e1, z⟩ := z
  subst e1
  intro v F'' H'' s ev ok
  cases (show Rep (mdX X) F'' v (.bl k) from ok)
  exact ⟨k, rfl, z F'' H'' (R'.evo ev s) (e.trans ev.nob)⟩
def wtNot (u : TW) : TW := fun env Q E => u env (fun b e => Q (!b) e) E
theorem MonoT.not (m : MonoT u) : MonoT (wtNot u) := ⟨fun hQ hE h => m.mo (fun r e q => hQ _ _ q) hE h⟩
theorem st_not (h : ST X c W a u) : ST X c W (.UnaryOp .Not a pos) (wtNot u) := by
  refine ⟨PT.imp (pt_not h.pt) fun σ H Q q => ?_, .not h.mo⟩
  obtain ⟨F, env, R, q⟩ := q
  exact ⟨F, env, R, q⟩
def wtAnd (u v : TW) : TW := fun env Q E => u env (fun b e => if b = true then v e Q E else Q false e) E
def wtOr (u v : TW) : TW := fun env Q E => u env (fun b e => if b = true then Q true e else v e Q E) E
theorem MonoT.and (m : MonoT ua) (n : MonoT ub) : MonoT (wtAnd ua ub) := ⟨fun hQ hE h => m.mo (fun r e q => by
  cases r with
  | true => exact n.mo hQ hE q
  | false => exact hQ _ _ q) hE h⟩
theorem MonoT.or (m : MonoT ua) (n : MonoT ub) : MonoT (wtOr ua ub) := ⟨fun hQ hE h => m.mo (fun r e q => by
  cases r with
  | false => exact n.mo hQ hE q
  | true => exact hQ _ _ q) hE h⟩
theorem spw_and1 (h : ST X c W a ua) : SPW X c W (.BoolOp .And [a] pos) ua := ⟨pw_and1 h.pt, h.mo⟩
theorem spw_or1 (h : ST X c W a ua) : SPW X c W (.BoolOp .Or [a] pos) ua := ⟨pw_or1 h.pt, h.mo⟩
theorem spw_and (h : ST X c W a ua) (h2 : SPW X c W (.BoolOp .And (b :: rest) pos) ub) : SPW X c W (.BoolOp .And (a :: b :: rest) pos) (wtAnd ua ub) := by
  refine ⟨PW.imp (pw_and h.pt h2.pt) fun σ H Q q => ?_, .and h.mo h2.mo⟩
  obtain ⟨F, env, R, q⟩ := q
  refine ⟨F, env, R, h.mo.mo (fun r e1 q => ?_) (fun _ _ z => z) q⟩
  intro F' H' R' ev
  cases r with
  | true => exact TRd.post h2.mo R' ev q
  | false => exact q F' H' R' ev
theorem spw_or (h : ST X c W a ua) (h2 : SPW X c W (.BoolOp .Or (b :: rest) pos) ub) : SPW X c W (.BoolOp .Or (a :: b :: rest) pos) (wtOr ua ub) := by
  refine ⟨PW.imp (pw_or h.pt h2.pt) fun σ H Q q => ?_, .or h.mo h2.mo⟩
  obtain ⟨F, env, R, q⟩ := q
  refine ⟨F, env, R, h.mo.mo (fun r e1 q => ?_) (fun _ _ z => z) q⟩
  intro F' H' R' ev
  cases r with
  | false => exact TRd.post h2.mo R' ev q
  | true => exact q F' H' R' ev
theorem SPW.st (h : SPW X c W e u) : ST X c W e u := ⟨h.pt.pt, h.mo⟩
def wAnd (wa wb : EW) : EW := fun env Q E => wa env (fun r e => ∃ b, r = .fz (.bl b) ∧ if b = true then wb e Q E else Q (.fz (.bl false)) e) E
def wOr (wa wb : EW) : EW := fun env Q E => wa env (fun r e => ∃ b, r = .fz (.bl b) ∧ if b = true then Q (.fz (.bl true)) e else wb e Q E) E
def wNot (wa : EW) : EW := fun env Q E => wa env (fun r e => ∃ b, r = .fz (.bl b) ∧ Q (.fz (.bl (!b))) e) E
theorem Mono.and (m : Mono wa) (n : Mono wb) : Mono (wAnd wa wb) := ⟨fun hQ hE h => m.mo (fun r e ⟨b, e1, q⟩ => ⟨b, e1, by
  cases b with
  | true => exact n.mo hQ hE q
  | false => exact hQ _ _ q⟩) hE h⟩
theorem Mono.or (m : Mono wa) (n : Mono wb) : Mono (wOr wa wb) := ⟨fun hQ hE h => m.mo (fun r e ⟨b, e1, q⟩ => ⟨b, e1, by
  cases b with
  | false => exact n.mo hQ hE q
  | true => exact hQ _ _ q⟩) hE h⟩
theorem Mono.not (m : Mono wa) : Mono (wNot wa) := ⟨fun hQ hE h => m.mo (fun r e ⟨b, e1, q⟩ => ⟨b, e1, hQ _ _ q⟩) hE h⟩
theorem se_one {op : BoolOp} (h : SE X c W a wa) : SE X c W (.BoolOp op [a] pos) wa := ⟨pe_one h.pe, h.mo⟩
theorem se_and (h : SE X c W a wa) (h2 : SE X c W (.BoolOp .And (b :: rest) pos) wb) : SE X c W (.BoolOp .And (a :: b :: rest) pos) (wAnd wa wb) := by
  refine ⟨PE.imp (pe_and h.pe h2.pe) fun σ H Q q => ?_, .and h.mo h2.mo⟩
  obtain ⟨F, env, R, q⟩ := q
  refine ⟨F, env, R, h.mo.mo (fun r e1 ⟨k, ek, q⟩ => ?_) (fun _ _ z => z) q⟩
  subst ek
  intro v F' H' R' ev ok
  cases (show Rep (mdX X) F' v (.bl k) from ok)
  refine ⟨k, rfl, ?_⟩
  cases k with
  | true => exact ERd.post h2.mo R' ev q
  | false => exact q _ F' H' R' ev (.bl false)
theorem se_not (h : SE X c W a wa) : SE X c W (.UnaryOp .Not a pos) (wNot wa) := by
  refine ⟨PE.imp (pe_not h.pe) fun σ H Q q => ?_, .not h.mo⟩
  obtain ⟨F, env, R, q⟩ := q
  refine ⟨F, env, R, h.mo.mo (fun r e1 ⟨k, ek, q⟩ => ?_) (fun _ _ z => z) q⟩
  subst ek
  intro v F' H' R' ev ok
  cases (show Rep (mdX X) F' v (.bl k) from ok)
  exact ⟨k, rfl, q _ F' H' R' ev (.bl _)⟩
def wIte (u : TW) (wa wb : EW) : EW := fun env Q E => u env (fun k e => if k = true then wa e Q E else wb e Q E) E
def wChain (g g' : G2) (wa wb wd : EW) : EW := fun env Q E => wFz wa env (fun ra e1 => wFz wb e1 (fun rb e2 => ∃ da db, look e2 ra = some da ∧ look e2 rb = some db ∧ g da db (fun r => ∃ k, r = .fz (.bl k) ∧
  if k = true then wFz wd e2 (fun rd e3 => ∃ db' dd, look e3 rb = some db' ∧ look e3 rd = some dd ∧ g' db' dd (fun r => Q r e3)) E else Q (.fz (.bl false)) e2)) E) E
abbrev AW := En → (List Rv → En → Prop) → XW → Prop
structure MonoA (w : AW) : Prop where
  mo : ∀ {env : En} {Q Q' : List Rv → En → Prop} {E E' : XW}, (∀ r e, Q r e → Q' r e) → (∀ x e, E x e → E' x e) → w env Q E → w env Q' E'
def OpsOk (M : Md) (F : Hp) (σ : St) : List V → List Rv → Prop
  | [], [] => True
  | v :: vs, r :: rs => OpOk M F σ v r ∧ OpsOk M F σ vs rs
  | _, _ => False
theorem OpsOk.same {M : Md} {F F' : Hp} {σ : St} (s : Same F F') : ∀ {vs : List V} {rs : List Rv}, OpsOk M F σ vs rs → OpsOk M F' σ vs rs
  | [], [], _ => True.intro
  | _ :: _, _ :: _, ⟨h, r⟩ => ⟨h.same s, OpsOk.same s r⟩
  | [], _ :: _, h => h.elim
  | _ :: _, [], h => h.elim
def APost (M : Md) (c : Ct) (F H : Hp) (σ : St) (env : En) (Q : List V → Hp → Prop) : List Rv → En → Prop := fun rs env' =>
  ∀ vs F' H', Rel M c F' H' σ env' → Evo (Own σ env) (Own σ env') F H F' H' → OpsOk M F' σ vs rs → Q vs H'
def ARd (M : Md) (c : Ct) (W : WX) (w : AW) : TA := fun σ H Q => ∃ F env, Rel M c F H σ env ∧ w env (APost M c F H σ env Q) (XPost M c W F H σ env)
structure SA (X : Cx) (c : Ct) (W : WX) (es : List Expr) (w : AW) : Prop where
  pa : PA X es (ARd (mdX X) c W w)
  mo : MonoA w
def wNil : AW := fun env Q _ => Q [] env
def wCons (w : EW) (wl : AW) : AW := fun env Q E => wFz w env (fun r e => wl e (fun rs e2 => Q (r :: rs) e2) E) E
theorem sa_nil : SA X c W [] wNil := ⟨PA.imp pa_nil fun σ H Q h => by
  obtain ⟨F, env, R, h⟩ := h
  exact h [] F H R Evo.refl True.intro, ⟨fun hQ _ h => hQ _ _ h⟩⟩
theorem sa_cons {wl : AW} (h : SE X c W e w) (h2 : SA X c W es wl) (hs : starEach (e :: es) X.env = (false, eval e X.env) :: starEach es X.env := by rfl) : SA X c W (e :: es) (wCons w wl) := by
  refine ⟨PA.imp (pa_cons h.pe h2.pa hs) fun σ H Q q => ?_, ⟨fun hQ hE q => h.mo.fz.mo (fun r e q => h2.mo.mo (fun rs e q => hQ _ _ q) hE q) hE q⟩⟩
  obtain ⟨F, env, R, q⟩ := q
  refine opd h.mo R q fun r e1 v F1 H1 R1 ev1 ok1 q1 => ?_
  refine ⟨F1, e1, R1, h2.mo.mo (fun rs e2 q2 => ?_) (fun _ _ z => XPost.step ev1 z) q1⟩
  intro vs F2 H2 R2 ev2 ok2
  exact q2 (v :: vs) F2 H2 R2 (ev1.trans ev2) ⟨ok1.same ev2.fs, ok2⟩
def lookL (env : En) : List Rv → Option (List D)
  | [] => some []
  | r :: rs => match look env r, lookL env rs with
    | some d, some ds => some (d :: ds)
    | _, _ => none
def VwL (M : Md) (F H : Hp) : List V → List D → Prop
  | [], [] => True
  | v :: vs, d :: ds => Vw M F H v d ∧ VwL M F H vs ds
  | _, _ => False
theorem OpsOk.vw {M : Md} {F H : Hp} {σ : St} {env : En} (R : Rel M c F H σ env) : ∀ {vs : List V} {rs : List Rv} {ds : List D}, OpsOk M F σ vs rs → lookL env rs = some ds → VwL M F H vs ds
  | [], [], _, _, l => by cases l; exact True.intro
  | v :: vs, r :: rs, ds, ⟨h, t⟩, l => by
    unfold lookL at l
    cases h1 : look env r with
    | none => rw [h1] at l; cases l
    | some x =>
      cases h2 : lookL env rs with
      | none => rw [h1, h2] at l; cases l
      | some xs =>
        rw [h1, h2] at l
        cases l
        exact ⟨h.vw R h1, OpsOk.vw R t h2⟩
  | [], _ :: _, _, h, _ => h.elim
  | _ :: _, [], _, h, _ => h.elim
abbrev GL := List D → (Rv → Prop) → Prop
structure MonoL (g : GL) : Prop where
  mo : ∀ {ds : List D} {Q Q' : Rv → Prop}, (∀ r, Q r → Q' r) → g ds Q → g ds Q'
structure VRL (X : Cx) (f : Value) (g : GL) : Prop where
  ok : CallR X f (fun vs H Qv => ∃ F ds, Same F H ∧ VwL (mdX X) F H vs ds ∧ g ds (NPost (mdX X) F H Qv))
  mo : MonoL g
def wBlt (g : GL) (wl : AW) : EW := fun env Q E => wl env (fun rs e => ∃ ds, lookL e rs = some ds ∧ g ds (fun r => Q r e)) E
theorem Mono.blt {g : GL} {wl : AW} (mg : MonoL g) (ml : MonoA wl) : Mono (wBlt g wl) := ⟨fun hQ hE h => ml.mo (fun rs e ⟨ds, l, q⟩ => ⟨ds, l, mg.mo (fun r z => hQ _ _ z) q⟩) hE h⟩
theorem blt_core {M : Md} {g : GL} {wl : AW} (mg : MonoL g) (ml : MonoA wl) {σ : St} {H : Hp} {Q : VK} (h : ERd M c W (wBlt g wl) σ H Q) :
    ARd M c W wl σ H fun vs H1 => ∃ F ds, Same F H1 ∧ VwL M F H1 vs ds ∧ g ds (NPost M F H1 Q) := by
  obtain ⟨F, env, R, h⟩ := h
  refine ⟨F, env, R, ml.mo (fun rs e ⟨ds, l, q⟩ => ?_) (fun _ _ z => z) h⟩
  intro vs F' H' R' ev ok
  exact ⟨F', ds, R'.sub, ok.vw R' l, mg.mo (fun r z => NPost.of R' (EPost.step ev z)) q⟩
theorem se_callB {x : Str} {p : Pos} {id : String} {g : GL} {wl : AW} (hc : VRL X (.builtin id) g) (hg : Gl X x) (hm : X.mg x = none) (hv : bootBuiltins x = some (.builtin id)) (ha : SA X c W (e :: es) wl)
    (hn : x ≠ "__name__" := by decide) (hdb : (x == ("__debug__" : Str)) = false := by decide) (hst : starEach (e :: es) X.env = (false, eval e X.env) :: starEach es X.env := by rfl) (hpl : (backTo pos (starEach es X.env)).any (·.1) = false := by rfl) :
    SE X c W (.Call (.Name x p) (e :: es) [] pos) (wBlt g wl) :=
  ⟨PE.imp (pe_callB hc.ok hg hm hv ha.pa hn hdb hst hpl) fun σ H Q h => blt_core hc.mo ha.mo h, .blt hc.mo ha.mo⟩
theorem se_callTy {x : Str} {p : Pos} {T : String} {g : GL} {wl : AW} (hc : VRL X (.type T) g) (hg : Gl X x) (hm : X.mg x = none) (hv : bootBuiltins x = some (.type T)) (ha : SA X c W (e :: es) wl)
    (hn : x ≠ "__name__" := by decide) (hdb : (x == ("__debug__" : Str)) = false := by decide) (hst : starEach (e :: es) X.env = (false, eval e X.env) :: starEach es X.env := by rfl) (hpl : (backTo pos (starEach es X.env)).any (·.1) = false := by rfl) :
    SE X c W (.Call (.Name x p) (e :: es) [] pos) (wBlt g wl) :=
  ⟨PE.imp (pe_callTy hc.ok hg hm hv ha.pa hn hdb hst hpl) fun σ H Q h => blt_core hc.mo ha.mo h, .blt hc.mo ha.mo⟩
end
end LV
namespace LV
open PySem PySem.Spec L2
def frz1 (env : En) : Rv → Option (D × En)
  | .fz d => some (d, env)
  | .ow o => none
  | .sl i => match env[i]? with
    | some (some (.ow o)) => some (o.d, env.set i (some (.fz o.d)))
    | some (some (.fz d)) => some (d, env)
    | _ => none
def frzL (env : En) : List Rv → Option (List D × En)
  | [] => some ([], env)
  | r :: rs => match frz1 env r with
    | none => none
    | some (d, e1) => match frzL e1 rs with
      | none => none
      | some (ds, e2) => some (d :: ds, e2)
section
variable {M : Md} {c : Ct} {F H : Hp} {σ : St} {env env' : En}
theorem frz1_ok {v : V} {r : Rv} {d : D} (R : Rel M c F H σ env) (h : OpOk M F σ v r) (e : frz1 env r = some (d, env')) :
    ∃ F', Rel M c F' H σ env' ∧ Evo (Own σ env) (Own σ env') F H F' H ∧ Rep M F' v d := by
  cases r with
  | fz d' => cases e; exact ⟨F, R, Evo.refl, h⟩
  | ow o => cases e
  | sl i =>
    have h' : σ[i]? = some (some v) := h
    cases he : env[i]? with
    | none => simp only [frz1, he] at e; cases e
    | some x =>
      cases x with
      | none => simp only [frz1, he] at e; cases e
      | some y =>
        cases y with
        | ex _ _ _ _ => simp only [frz1, he] at e; cases e
        | fz d' =>
          simp only [frz1, he] at e
          cases e
          obtain ⟨u, h1, h2⟩ := R.fz i _ he
          rw [h'] at h1; cases h1
          exact ⟨F, R, Evo.refl, h2⟩
        | ow o =>
          simp only [frz1, he] at e
          cases e
          obtain ⟨p, F', h1, R', r, ev, _⟩ := R.freeze he
          rw [h'] at h1; cases h1
          exact ⟨F', R', ev, r⟩
theorem frzL_ok : ∀ {vs : List V} {rs : List Rv} {ds : List D} {F : Hp} {env env' : En}, Rel M c F H σ env → OpsOk M F σ vs rs → frzL env rs = some (ds, env') →
    ∃ F', Rel M c F' H σ env' ∧ Evo (Own σ env) (Own σ env') F H F' H ∧ RepL M F' vs ds
  | [], [], _, F, env, _, R, _, e => by cases e; exact ⟨F, R, Evo.refl, .nil⟩
  | v :: vs, r :: rs, ds, F, env, env', R, ⟨h, t⟩, e => by
    unfold frzL at e
    cases e1 : frz1 env r with
    | none => rw [e1] at e; cases e
    | some p =>
      obtain ⟨d, en1⟩ := p
      rw [e1] at e
      cases e2 : frzL en1 rs with
      | none => simp only [e2] at e; cases e
      | some q =>
        obtain ⟨ds', en2⟩ := q
        simp only [e2] at e
        cases e
        obtain ⟨F1, R1, ev1, r1⟩ := frz1_ok R h e1
        obtain ⟨F2, R2, ev2, r2⟩ := frzL_ok R1 (t.same ev1.fs) e2
        exact ⟨F2, R2, ev1.trans ev2, .cons (r1.same ev2.fs) r2⟩
  | [], _ :: _, _, _, _, _, _, h, _ => h.elim
  | _ :: _, [], _, _, _, _, _, h, _ => h.elim
end
section
variable {X : Cx} {c : Ct} {W : WX} {e a b : Expr} {w wa wb : EW} {wl : AW} {pos : Pos} {es : List Expr}
def wTup (wl : AW) : EW := fun env Q E => wl env (fun rs e => ∃ ds e', frzL e rs = some (ds, e') ∧ ds.length ≤ sizeLine ∧ Q (.fz (.tup ds)) e') E
def wLst (wl : AW) : EW := fun env Q E => wl env (fun rs e => ∃ ds e', frzL e rs = some (ds, e') ∧ ds.length ≤ sizeLine ∧ Q (.ow (.lst ds)) e') E
theorem Mono.tup (m : MonoA wl) : Mono (wTup wl) := ⟨fun hQ hE h => m.mo (fun rs e ⟨ds, e', l, z, q⟩ => ⟨ds, e', l, z, hQ _ _ q⟩) hE h⟩
theorem Mono.lst (m : MonoA wl) : Mono (wLst wl) := ⟨fun hQ hE h => m.mo (fun rs e ⟨ds, e', l, z, q⟩ => ⟨ds, e', l, z, hQ _ _ q⟩) hE h⟩
theorem Rel.notOwn {M : Md} {F H : Hp} {σ : St} {env : En} (R : Rel M c F H σ env) {p : Addr} (hp : H p = none) : ¬ Own σ env p := fun z => by
  obtain ⟨u, hu⟩ := R.own_some z
  rw [hp] at hu; cases hu
theorem se_tup {k : Nat} (h : SA X c W es wl) : SE X c W (.Tuple es k pos) (wTup wl) := by
  refine ⟨PE.imp (pe_tup h.pa) fun σ H Q q => ?_, .tup h.mo⟩
  obtain ⟨F, env, R, q⟩ := q
  refine ⟨F, env, R, h.mo.mo (fun rs e ⟨ds, e', l, z, q⟩ => ?_) (fun _ _ z => z) q⟩
  intro vs F1 H1 R1 ev1 ok1
  obtain ⟨F2, R2, ev2, rl⟩ := frzL_ok R1 ok1 l
  refine ⟨by rw [rl.length]; exact z, fun p hp => ?_⟩
  have s := R2.sub
  have ev := (Evo.newF (o := .tup vs) hp (s.free hp))
  exact q _ _ _ (R2.evo ev (same_newF s hp)) ((ev1.trans ev2).trans ev.nob) (.tup (.inl (.inl upd_same)) (rl.same ev.fs))
theorem se_lst (h : SA X c W es wl) : SE X c W (.List es pos) (wLst wl) := by
  refine ⟨PE.imp (pe_lst h.pa) fun σ H Q q => ?_, .lst h.mo⟩
  obtain ⟨F, env, R, q⟩ := q
  refine ⟨F, env, R, h.mo.mo (fun rs e ⟨ds, e', l, z, q⟩ => ?_) (fun _ _ z => z) q⟩
  intro vs F1 H1 R1 ev1 ok1
  obtain ⟨F2, R2, ev2, rl⟩ := frzL_ok R1 ok1 l
  refine ⟨by rw [rl.length]; exact z, fun p hp => ?_⟩
  have s := R2.sub
  have ev : Evo Nob Nob F2 H1 F2 (upd H1 p (.lst vs)) := Evo.newO hp
  exact q _ _ _ (R2.evo ev (same_newO s hp)) ((ev1.trans ev2).trans ev.nob) ⟨p, rfl, s.free hp, ⟨vs, upd_same, rl⟩, hO (R2.notOwn hp), hH ((ev1.trans ev2).noneOf hp)⟩
structure VIx (X : Cx) (g : G2) : Prop where
  ok : IxR X (fun x y H Qv => ∃ F da db, Same F H ∧ Vw (mdX X) F H x da ∧ Vw (mdX X) F H y db ∧ g da db (NPost (mdX X) F H Qv))
  mo : Mono2 g
theorem se_ix {g : G2} (ho : VIx X g) (ha : SE X c W a wa) (hb : SE X c W b wb) (hs : PlainIx b := by exact fun _ _ => rfl) : SE X c W (.Subscript a b pos) (wOp2 g wa wb) := by
  refine ⟨PE.imp (pe_ix ho.ok ha.pe hb.pe hs) fun σ H Q h => ?_, .op2 ho.mo ha.mo hb.mo⟩
  obtain ⟨F, env, R, h⟩ := h
  refine opd2 ha.mo hb.mo R h fun ra rb env' x y F' H' R' e o1 o2 q => ?_
  obtain ⟨da, db, l1, l2, q⟩ := q
  exact ⟨F', da, db, R'.sub, o1.vw R' l1, o2.vw R' l2, ho.mo.mo (fun r z => NPost.of R' (EPost.step e z)) q⟩
abbrev OW := En → (Option Int → En → Prop) → XW → Prop
structure MonoO (w : OW) : Prop where
  mo : ∀ {env : En} {Q Q' : Option Int → En → Prop} {E E' : XW}, (∀ r e, Q r e → Q' r e) → (∀ x e, E x e → E' x e) → w env Q E → w env Q' E'
def ORd (M : Md) (c : Ct) (W : WX) (w : OW) : TO := fun σ H Q => ∃ F env, Rel M c F H σ env ∧ w env (fun o env' => ∀ F' H', Rel M c F' H' σ env' → Evo (Own σ env) (Own σ env') F H F' H' → Q o H') (XPost M c W F H σ env)
structure SO (X : Cx) (c : Ct) (W : WX) (e : Option Expr) (w : OW) : Prop where
  po : PO X e (ORd (mdX X) c W w)
  mo : MonoO w
theorem PO.imp {X : Cx} {e : Option Expr} {t t' : TO} (h : PO X e t) (i : ∀ σ H Q, t' σ H Q → t σ H Q) : PO X e t' := ⟨fun pins s σ H Q I q => h.run pins s σ H Q I (i σ H Q q)⟩
def wNoP : OW := fun env Q _ => Q none env
def wPt (w : EW) : OW := fun env Q E => w env (fun r e => ∃ i, r = .fz (.int i) ∧ Q (some i) e) E
theorem so_none : SO X c W none wNoP := ⟨PO.imp po_none fun σ H Q h => by
  obtain ⟨F, env, R, h⟩ := h
  exact h F H R Evo.refl, ⟨fun hQ _ h => hQ _ _ h⟩⟩
theorem so_some (h : SE X c W e w) : SO X c W (some e) (wPt w) := by
  refine ⟨PO.imp (po_some h.pe) fun σ H Q q => ?_, ⟨fun hQ hE q => h.mo.mo (fun r e ⟨i, e1, q⟩ => ⟨i, e1, hQ _ _ q⟩) hE q⟩⟩
  obtain ⟨F, env, R, q⟩ := q
  refine ⟨F, env, R, h.mo.mo (fun r e1 ⟨i, ei, q⟩ => ?_) (fun _ _ z => z) q⟩
  subst ei
  intro v F' H' R' ev ok
  cases (show Rep (mdX X) F' v (.int i) from ok)
  exact ⟨i, rfl, q F' H' R' ev⟩
def cutD (ds : List D) (lo hi : Option Int) : List D := (ds.drop (HT.sIx ds.length 0 lo)).take (HT.sIx ds.length ds.length hi - HT.sIx ds.length 0 lo)
theorem RepL.cut {M : Md} {F : Hp} {xs : List V} {ds : List D} (r : RepL M F xs ds) (lo hi : Option Int) : RepL M F (cutV xs lo hi) (cutD ds lo hi) := by
  unfold cutV cutD
  rw [r.length]
  exact (r.drop _).take _
def gSl (d : D) (lo hi : Option Int) (Q : Rv → Prop) : Prop :=
  match d with
  | .tup ds => Q (.fz (.tup (cutD ds lo hi)))
  | .lst ds => Q (.ow (.lst (cutD ds lo hi)))
  | .scr ns => Q (.ow (.lst (cutD (ns.map D.int) lo hi)))
  | .str z => z.length ≤ sizeLine ∧ Q (.fz (.str (cutS z lo hi)))
  | _ => False
theorem gSl_mono {d : D} {lo hi : Option Int} {Q Q' : Rv → Prop} (h : ∀ r, Q r → Q' r) (q : gSl d lo hi Q) : gSl d lo hi Q' := by
  cases d with
  | tup ds => exact h _ q
  | lst ds => exact h _ q
  | scr ds => exact h _ q
  | str z => exact ⟨q.1, h _ q.2⟩
  | _ => exact q
theorem cut_ints (ns : List Int) (lo hi : Option Int) : RepL M F (cutV (ns.map V.int) lo hi) (cutD (ns.map D.int) lo hi) := RepL.cut (RepL.of_ints ns) lo hi
theorem sl_any : SlR X (fun x lo hi H Qv => ∃ F d, Same F H ∧ Vw (mdX X) F H x d ∧ gSl d lo hi (NPost (mdX X) F H Qv)) := by
  intro pins s σ H x v vl vu lo hi sl Q I rx hs pl pu h
  obtain ⟨F, d, sm, vw, q⟩ := h
  cases d with
  | tup ds =>
    obtain ⟨a, xs, rfl, hx, r⟩ := vw
    refine sl_tupA pins s σ H _ v vl vu lo hi sl Q I rx hs pl pu ⟨a, xs, rfl, Same.sqT sm hx, fun hw => ?_, fun hw p hp => NPost.newT q sm (r.cut lo hi) hp⟩
    have e : cutD ds lo hi = ds := by
      have h' : HT.sIx ds.length 0 lo = 0 ∧ HT.sIx ds.length ds.length hi = ds.length := by rw [← r.length]; exact hw
      unfold cutD
      rw [h'.1, h'.2]
      simp
    have q' : NPost (mdX X) F H Q (.fz (.tup ds)) := by rw [← e]; exact q
    exact NPost.here q' sm (.tup hx r)
  | lst ds =>
    obtain ⟨a, xs, rfl, hx, r⟩ := vw
    exact sl_list pins s σ H _ v vl vu lo hi sl Q I rx hs pl pu ⟨a, xs, rfl, .inl (.inl hx), fun p hp => NPost.newL q sm (r.cut lo hi) hp⟩
  | scr ns =>
    obtain ⟨a, rfl, hx⟩ := vw
    exact sl_list pins s σ H _ v vl vu lo hi sl Q I rx hs pl pu ⟨a, _, rfl, hx, fun p hp => NPost.newL q sm (cut_ints ns lo hi) hp⟩
  | str z =>
    cases (show x = .str z from vw)
    exact sl_str pins s σ H _ v vl vu lo hi sl Q I rx hs pl pu ⟨z, rfl, q.1, NPost.here q.2 sm (.str _)⟩
  | _ => exact q.elim
def wSl (w : EW) (wl wh : OW) : EW := fun env Q E => wFz w env (fun r e1 => wl e1 (fun lo e2 => wh e2 (fun hi e3 => ∃ d, look e3 r = some d ∧ gSl d lo hi (fun r => Q r e3)) E) E) E
theorem se_sl {lo hi : Option Expr} {ul uh : OW} {p2 : Pos} (h : SE X c W e w) (hl : SO X c W lo ul) (hh : SO X c W hi uh) : SE X c W (.Subscript e (.Slice lo hi none p2) pos) (wSl w ul uh) := by
  refine ⟨PE.imp (pe_slice sl_any h.pe hl.po hh.po) fun σ H Q q => ?_, ⟨fun hQ hE q => h.mo.fz.mo (fun r e q => hl.mo.mo (fun lo e q => hh.mo.mo (fun hi e ⟨d, l, q⟩ => ⟨d, l, gSl_mono (fun _ z => hQ _ _ z) q⟩) hE q) hE q) hE q⟩⟩
  obtain ⟨F, env, R, q⟩ := q
  refine opd h.mo R q fun r e1 v F1 H1 R1 ev1 ok1 q1 => ?_
  refine ⟨F1, e1, R1, hl.mo.mo (fun lo e2 q2 => ?_) (fun _ _ z => XPost.step ev1 z) q1⟩
  intro F2 H2 R2 ev2
  refine ⟨F2, e2, R2, hh.mo.mo (fun hi e3 q3 => ?_) (fun _ _ z => XPost.step (ev1.trans ev2) z) q2⟩
  intro F3 H3 R3 ev3
  obtain ⟨d, l, q3⟩ := q3
  exact ⟨F3, d, R3.sub, (ok1.same (ev2.fs.trans ev3.fs)).vw R3 l, gSl_mono (fun r z => NPost.of R3 (EPost.step ((ev1.trans ev2).trans ev3) z)) q3⟩
/-- what a def keeps: arguments, what follows (the result, the arguments afterwards), what follows a raise -/
abbrev FSpec := List Val → (Rv → List Val → Prop) → (Xn → List Val → Prop) → Prop
structure MonoF (S : FSpec) : Prop where
  mo : ∀ {args : List Val} {Q Q' : Rv → List Val → Prop} {E E' : Xn → List Val → Prop}, (∀ r e, Q r e → Q' r e) → (∀ x e, E x e → E' x e) → S args Q E → S args Q' E'
def sV (vs : List V) : St := vs.map some
def eV (args : List Val) : En := args.map some
def toSp (M : Md) (S : FSpec) : Sp := fun vs H Q E => ∃ F args, Rel M (ctN H) F H (sV vs) (eV args) ∧ S args
  (fun r args' => ∀ v F' H', Rel M (ctN H) F' H' (sV vs) (eV args') → Evo (Own (sV vs) (eV args)) (Own (sV vs) (eV args')) F H F' H' → RvOk M F' H' H (sV vs) (eV args') v r → Q v H')
  (fun x args' => ∀ cl d F' H', Rel M (ctN H) F' H' (sV vs) (eV args') → Evo (Own (sV vs) (eV args)) (Own (sV vs) (eV args')) F H F' H' → XOk M F' x cl d → E cl d H')
/-- an argument as it is handed over -/
def valOf (env : En) : Rv → Option Val
  | .fz d => some (.fz d)
  | .ow _ => none
  | .sl i => match env[i]? with
    | some (some (.ow (.nst _))) => none
    | some (some (.ow o)) => some (.ow o)
    | some (some (.fz d)) => some (.fz d)
    | _ => none
def valL (env : En) : List Rv → Option (List Val)
  | [] => some []
  | r :: rs => match valOf env r, valL env rs with
    | some a, some as => some (a :: as)
    | _, _ => none
/-- the slots that are handed over, each once -/
def slotsOf : List Rv → List Nat
  | [] => []
  | .sl i :: rs => i :: slotsOf rs
  | _ :: rs => slotsOf rs
def putL (env : En) : List Rv → List Val → En
  | .sl i :: rs, a :: as => (putL env rs as).set i (some a)
  | _ :: rs, _ :: as => putL env rs as
  | _, _ => env
/-- behind a call: data has stayed data -/
def backOk : List Val → List Val → Bool
  | [], [] => true
  | .fz _ :: as, .fz _ :: bs => backOk as bs
  | .ow _ :: as, .fz _ :: bs => backOk as bs
  | .ow _ :: as, .ow _ :: bs => backOk as bs
  | _, _ => false
theorem backOk_len : ∀ {as bs : List Val}, backOk as bs = true → bs.length = as.length
  | [], [], _ => rfl
  | .fz _ :: as, .fz _ :: bs, h => by rw [List.length_cons, List.length_cons, backOk_len (as := as) (bs := bs) h]
  | .ow _ :: as, .fz _ :: bs, h => by rw [List.length_cons, List.length_cons, backOk_len (as := as) (bs := bs) h]
  | .ow _ :: as, .ow _ :: bs, h => by rw [List.length_cons, List.length_cons, backOk_len (as := as) (bs := bs) h]
theorem backOk_ow : ∀ {as bs : List Val} {k : Nat} {a : Val} {o : O}, backOk as bs = true → as[k]? = some a → bs[k]? = some (.ow o) → ∃ o', a = .ow o'
  | [], [], k, a, o, _, e, _ => by simp at e
  | .fz _ :: as, .fz _ :: bs, 0, a, o, h, _, e => by simp at e
  | .ow o' :: as, .fz _ :: bs, 0, a, o, h, _, e => by simp at e
  | .ow o' :: as, .ow _ :: bs, 0, a, o, h, e, _ => by simp at e; exact ⟨o', e.symm⟩
  | .fz _ :: as, .fz _ :: bs, k + 1, a, o, h, e, e' => backOk_ow (as := as) (bs := bs) (k := k) h (by simpa using e) (by simpa using e')
  | .ow _ :: as, .fz _ :: bs, k + 1, a, o, h, e, e' => backOk_ow (as := as) (bs := bs) (k := k) h (by simpa using e) (by simpa using e')
  | .ow _ :: as, .ow _ :: bs, k + 1, a, o, h, e, e' => backOk_ow (as := as) (bs := bs) (k := k) h (by simpa using e) (by simpa using e')
def wCall (S : FSpec) (wl : AW) : EW := fun env Q E => wl env (fun rs e => ∃ args, valL e rs = some args ∧ (slotsOf rs).Nodup ∧ S args (fun r args' => backOk args args' = true ∧ (∀ i, r ≠ .sl i) ∧ Q r (putL e rs args')) (fun x args' => backOk args args' = true ∧ E x (putL e rs args'))) E
theorem Mono.call {S : FSpec} (mS : MonoF S) (ml : MonoA wl) : Mono (wCall S wl) := ⟨fun hQ hE h => ml.mo (fun rs e ⟨args, l, n, q⟩ => ⟨args, l, n, mS.mo (fun _ _ ⟨a, n, z⟩ => ⟨a, n, hQ _ _ z⟩) (fun _ _ ⟨a, z⟩ => ⟨a, hE _ _ z⟩) q⟩) hE h⟩
end
end LV
namespace LV
open PySem PySem.Spec L2
section
variable {M : Md} {c : Ct} {F H F' H' : Hp} {σ : St} {env : En} {vs : List V} {rs : List Rv} {args args' : List Val}
theorem valL_len : ∀ {rs : List Rv} {args : List Val}, valL env rs = some args → args.length = rs.length
  | [], _, h => by cases h; rfl
  | r :: rs, args, h => by
    unfold valL at h
    cases h1 : valOf env r with
    | none => rw [h1] at h; cases h
    | some a =>
      cases h2 : valL env rs with
      | none => rw [h1, h2] at h; cases h
      | some as => rw [h1, h2] at h; cases h; rw [List.length_cons, List.length_cons, valL_len h2]
theorem valL_get : ∀ {rs : List Rv} {args : List Val} {k : Nat} {a : Val}, valL env rs = some args → args[k]? = some a → ∃ r, rs[k]? = some r ∧ valOf env r = some a
  | [], _, k, a, h, e => by cases h; simp at e
  | r :: rs, args, k, a, h, e => by
    unfold valL at h
    cases h1 : valOf env r with
    | none => rw [h1] at h; cases h
    | some b =>
      cases h2 : valL env rs with
      | none => rw [h1, h2] at h; cases h
      | some as =>
        rw [h1, h2] at h; cases h
        cases k with
        | zero => simp at e; subst e; exact ⟨r, rfl, h1⟩
        | succ k => exact valL_get (k := k) h2 (by simpa using e)
theorem ops_len : ∀ {vs : List V} {rs : List Rv}, OpsOk M F σ vs rs → vs.length = rs.length
  | [], [], _ => rfl
  | _ :: _, _ :: _, ⟨_, t⟩ => by rw [List.length_cons, List.length_cons, ops_len t]
  | [], _ :: _, h => h.elim
  | _ :: _, [], h => h.elim
theorem ops_get : ∀ {vs : List V} {rs : List Rv} {k : Nat} {r : Rv}, OpsOk M F σ vs rs → rs[k]? = some r → ∃ v, vs[k]? = some v ∧ OpOk M F σ v r
  | [], [], k, r, _, e => by simp at e
  | v :: _, _ :: _, 0, r, ⟨h, _⟩, e => by simp at e; subst e; exact ⟨v, rfl, h⟩
  | _ :: _, _ :: _, k + 1, r, ⟨_, t⟩, e => ops_get (k := k) t (by simpa using e)
  | [], _ :: _, _, _, h, _ => h.elim
  | _ :: _, [], _, _, h, _ => h.elim
theorem mem_slots : ∀ {rs : List Rv} {k i : Nat}, rs[k]? = some (.sl i) → i ∈ slotsOf rs
  | [], k, i, e => by simp at e
  | r :: rs, 0, i, e => by simp at e; subst e; exact List.mem_cons_self
  | r :: rs, k + 1, i, e => by
    have := mem_slots (rs := rs) (k := k) (i := i) (by simpa using e)
    cases r with
    | fz _ => exact this
    | ow _ => exact this
    | sl j => exact List.mem_cons_of_mem _ this
theorem slots_inj : ∀ {rs : List Rv} {j k i : Nat}, (slotsOf rs).Nodup → rs[j]? = some (.sl i) → rs[k]? = some (.sl i) → j = k
  | [], j, k, i, _, e, _ => by simp at e
  | r :: rs, 0, 0, i, n, e, e' => rfl
  | r :: rs, 0, k + 1, i, n, e, e' => by
    simp at e; subst e
    have h1 := mem_slots (rs := rs) (k := k) (i := i) (by simpa using e')
    exact absurd h1 (List.nodup_cons.mp n).1
  | r :: rs, j + 1, 0, i, n, e, e' => by
    simp at e'; subst e'
    have h1 := mem_slots (rs := rs) (k := j) (i := i) (by simpa using e)
    exact absurd h1 (List.nodup_cons.mp n).1
  | r :: rs, j + 1, k + 1, i, n, e, e' => by
    have n' : (slotsOf rs).Nodup := by
      cases r with
      | fz _ => exact n
      | ow _ => exact n
      | sl _ => exact (List.nodup_cons.mp n).2
    rw [slots_inj (rs := rs) (j := j) (k := k) n' (by simpa using e) (by simpa using e')]
theorem putL_len : ∀ {rs : List Rv} {as : List Val}, (putL env rs as).length = env.length
  | [], _ => by unfold putL; rfl
  | .fz _ :: rs, [] => rfl
  | .ow _ :: rs, [] => rfl
  | .sl _ :: rs, [] => rfl
  | .fz _ :: rs, a :: as => putL_len (rs := rs) (as := as)
  | .ow _ :: rs, a :: as => putL_len (rs := rs) (as := as)
  | .sl _ :: rs, a :: as => by
    show ((putL env rs as).set _ _).length = _
    rw [List.length_set]; exact putL_len (rs := rs) (as := as)
theorem putL_in : ∀ {rs : List Rv} {as : List Val} {k i : Nat} {a : Val}, (slotsOf rs).Nodup → rs[k]? = some (.sl i) → as[k]? = some a → i < env.length → (putL env rs as)[i]? = some (some a)
  | [], _, k, i, a, _, e, _, _ => by simp at e
  | r :: rs, [], k, i, a, _, _, e, _ => by simp at e
  | r :: rs, b :: as, 0, i, a, n, e, e', hl => by
    simp at e e'; subst e; subst e'
    show ((putL env rs as).set i (some b))[i]? = _
    rw [List.getElem?_set_self (by rw [putL_len]; exact hl)]
  | r :: rs, b :: as, k + 1, i, a, n, e, e', hl => by
    have e1 : rs[k]? = some (.sl i) := by simpa using e
    have e2 : as[k]? = some a := by simpa using e'
    cases r with
    | fz _ => exact putL_in (rs := rs) (as := as) (k := k) n e1 e2 hl
    | ow _ => exact putL_in (rs := rs) (as := as) (k := k) n e1 e2 hl
    | sl j =>
      have hj : j ≠ i := fun z => (List.nodup_cons.mp n).1 (z ▸ mem_slots e1)
      show ((putL env rs as).set j (some b))[i]? = _
      rw [List.getElem?_set_ne hj]
      exact putL_in (rs := rs) (as := as) (k := k) (List.nodup_cons.mp n).2 e1 e2 hl
theorem putL_out : ∀ {rs : List Rv} {as : List Val} {i : Nat}, i ∉ slotsOf rs → (putL env rs as)[i]? = env[i]?
  | [], _, _, _ => by unfold putL; rfl
  | .fz _ :: rs, [], _, _ => rfl
  | .ow _ :: rs, [], _, _ => rfl
  | .sl _ :: rs, [], _, _ => rfl
  | .fz _ :: rs, a :: as, i, h => putL_out (rs := rs) (as := as) (i := i) h
  | .ow _ :: rs, a :: as, i, h => putL_out (rs := rs) (as := as) (i := i) h
  | .sl j :: rs, a :: as, i, h => by
    have hj : j ≠ i := fun z => h (z ▸ List.mem_cons_self)
    show ((putL env rs as).set j (some a))[i]? = _
    rw [List.getElem?_set_ne hj]
    exact putL_out (rs := rs) (as := as) (i := i) fun z => h (List.mem_cons_of_mem _ z)
theorem slots_mem : ∀ {rs : List Rv} {i : Nat}, i ∈ slotsOf rs → ∃ k : Nat, rs[k]? = some (Rv.sl i)
  | [], i, h => by cases h
  | .fz _ :: rs, i, h => by obtain ⟨k, e⟩ := slots_mem (rs := rs) h; exact ⟨k + 1, by simpa using e⟩
  | .ow _ :: rs, i, h => by obtain ⟨k, e⟩ := slots_mem (rs := rs) h; exact ⟨k + 1, by simpa using e⟩
  | .sl j :: rs, i, h => by
    rcases List.mem_cons.mp h with e | h
    · exact ⟨0, by rw [e]; rfl⟩
    · obtain ⟨k, e⟩ := slots_mem (rs := rs) h; exact ⟨k + 1, by simpa using e⟩
theorem eV_get {k : Nat} {a : Val} : (eV args)[k]? = some (some a) ↔ args[k]? = some a := by
  unfold eV
  rw [List.getElem?_map]
  cases args[k]? <;> simp
theorem sV_get {k : Nat} {v : V} : (sV vs)[k]? = some (some v) ↔ vs[k]? = some v := by
  unfold sV
  rw [List.getElem?_map]
  cases vs[k]? <;> simp
theorem valOf_ow {r : Rv} {o : O} (h : valOf env r = some (.ow o)) : ∃ i, r = .sl i ∧ env[i]? = some (some (.ow o)) := by
  cases r with
  | fz d => cases h
  | ow o => cases h
  | sl i =>
    refine ⟨i, rfl, ?_⟩
    cases he : env[i]? with
    | none => simp only [valOf, he] at h; cases h
    | some x =>
      cases x with
      | none => simp only [valOf, he] at h; cases h
      | some y =>
        cases y with
        | ex _ _ _ _ => simp only [valOf, he] at h; cases h
        | fz d' => simp only [valOf, he] at h; cases h
        | ow o' => cases o' <;> simp only [valOf, he] at h <;> cases h <;> rfl
theorem valOf_ex {r : Rv} {a : Addr} {C : Str} {ks : List Str} {ds : List D} (h : valOf env r = some (.ex a C ks ds)) : False := by
  cases r with
  | fz d => cases h
  | ow o => cases h
  | sl i =>
    cases he : env[i]? with
    | none => simp only [valOf, he] at h; cases h
    | some x =>
      cases x with
      | none => simp only [valOf, he] at h; cases h
      | some y =>
        cases y with
        | ow o' => cases o' <;> simp only [valOf, he] at h <;> cases h
        | _ => simp only [valOf, he] at h <;> cases h
theorem valOf_inn {r : Rv} {o : O} (h : valOf env r = some (.ow o)) : o.inn = [] := by
  cases r with
  | fz d => cases h
  | ow o => cases h
  | sl i =>
    cases he : env[i]? with
    | none => simp only [valOf, he] at h; cases h
    | some x =>
      cases x with
      | none => simp only [valOf, he] at h; cases h
      | some y =>
        cases y with
        | ow o' => cases o' <;> simp only [valOf, he] at h <;> cases h <;> rfl
        | _ => simp only [valOf, he] at h <;> cases h
theorem valOf_fz {r : Rv} {d : D} {v : V} (R : Rel M c F H σ env) (o : OpOk M F σ v r) (h : valOf env r = some (.fz d)) : Rep M F v d := by
  cases r with
  | fz d => cases h; exact o
  | ow o => cases h
  | sl i =>
    have h' : σ[i]? = some (some v) := o
    cases he : env[i]? with
    | none => simp only [valOf, he] at h; cases h
    | some x =>
      cases x with
      | none => simp only [valOf, he] at h; cases h
      | some y =>
        cases y with
        | ex _ _ _ _ => simp only [valOf, he] at h; cases h
        | ow o' => cases o' <;> simp only [valOf, he] at h <;> cases h
        | fz d' =>
          simp only [valOf, he] at h; cases h
          obtain ⟨u, h1, h2⟩ := R.fz i _ he
          rw [h'] at h1; cases h1; exact h2
/-- the callee's environment -/
theorem Rel.toArgs (R : Rel M c F H σ env) (ok : OpsOk M F σ vs rs) (l : valL env rs = some args) (nd : (slotsOf rs).Nodup) : Rel M (ctN H) F H (sV vs) (eV args) := by
  have at_ : ∀ {k : Nat} {a : Val}, args[k]? = some a → ∃ r v, rs[k]? = some r ∧ valOf env r = some a ∧ vs[k]? = some v ∧ OpOk M F σ v r := fun {k a} h => by
    obtain ⟨r, h1, h2⟩ := valL_get l h
    obtain ⟨v, h3, h4⟩ := ops_get ok h1
    exact ⟨r, v, h1, h2, h3, h4⟩
  refine ⟨R.sub, ?_, fun k d h => ?_, fun k o h => ?_, fun k a C ks ds h => ?_, fun j k o u p h1 h2 h3 h4 => ?_, fun _ h => (nomatch h), fun _ _ h => (nomatch h), fun _ _ _ _ _ _ => rfl, fun k o b h hb => ?_, fun _ u h => ⟨u, h⟩⟩
  · unfold eV sV
    rw [List.length_map, List.length_map, valL_len l, ops_len ok]
  · obtain ⟨r, v, h1, h2, h3, h4⟩ := at_ (eV_get.mp h)
    exact ⟨v, sV_get.mpr h3, valOf_fz R h4 h2⟩
  · obtain ⟨r, v, h1, h2, h3, h4⟩ := at_ (eV_get.mp h)
    obtain ⟨i, rfl, h5⟩ := valOf_ow h2
    obtain ⟨p, h6, h7, h8⟩ := R.ow i o h5
    have h4' : σ[i]? = some (some v) := h4
    rw [h4'] at h6; cases h6
    exact ⟨p, sV_get.mpr h3, h7, h8⟩
  · obtain ⟨r, v, h5, h6, _⟩ := at_ (eV_get.mp h)
    exact (valOf_ex h6).elim
  · obtain ⟨r, v, a1, a2, a3, a4⟩ := at_ (eV_get.mp h1)
    obtain ⟨r', v', b1, b2, b3, b4⟩ := at_ (eV_get.mp h2)
    obtain ⟨i, rfl, a5⟩ := valOf_ow a2
    obtain ⟨i', rfl, b5⟩ := valOf_ow b2
    obtain ⟨p1, h3, h5⟩ := h3
    obtain ⟨p2, h4, h6⟩ := h4
    rw [sV_get.mp h3] at a3; cases a3
    rw [sV_get.mp h4] at b3; cases b3
    have e := R.sep i i' o u p a5 b5 ⟨p1, a4, h5⟩ ⟨p2, b4, h6⟩
    subst e
    exact slots_inj nd a1 b1
  · obtain ⟨r, v, h1, h2, h3, h4⟩ := at_ (eV_get.mp h)
    rw [valOf_inn h2] at hb; cases hb
theorem own_args (ok : OpsOk M F σ vs rs) (l : valL env rs = some args) : ∀ b, Own (sV vs) (eV args) b → ∃ i o, i ∈ slotsOf rs ∧ env[i]? = some (some (.ow o)) ∧ ∃ p, σ[i]? = some (some (.ref p)) ∧ Has p o b := fun b ⟨k, o, h1, p, h2, h8⟩ => by
  obtain ⟨r, h3, h4⟩ := valL_get l (eV_get.mp h1)
  obtain ⟨v, h5, h6⟩ := ops_get ok h3
  obtain ⟨i, rfl, h7⟩ := valOf_ow h4
  rw [sV_get.mp h2] at h5; cases h5
  exact ⟨i, o, mem_slots h3, h7, p, h6, h8⟩
/-- behind the call -/
theorem Rel.back (R : Rel M c F H σ env) (ok : OpsOk M F σ vs rs) (l : valL env rs = some args) (nd : (slotsOf rs).Nodup)
    (R' : Rel M (ctN H) F' H' (sV vs) (eV args')) (ev : Evo (Own (sV vs) (eV args)) (Own (sV vs) (eV args')) F H F' H') (bk : backOk args args' = true) :
    Rel M c F' H' σ (putL env rs args') ∧ Evo (Own σ env) (Own σ (putL env rs args')) F H F' H' ∧ (∀ b, Own σ (putL env rs args') b → Own (sV vs) (eV args') b ∨ Own σ env b) := by
  have lenA : args'.length = rs.length := (backOk_len bk).trans (valL_len l)
  have ownSub : ∀ b, Own (sV vs) (eV args) b → Own σ env b := fun b h => by
    obtain ⟨i, o, _, h2, h3⟩ := own_args ok l b h
    exact ⟨i, o, h2, h3⟩
  -- a slot among the arguments
  have inn : ∀ {i : Nat}, i ∈ slotsOf rs → ∃ (k : Nat) (v : V), rs[k]? = some (Rv.sl i) ∧ vs[k]? = some v ∧ σ[i]? = some (some v) ∧ ∃ a, args'[k]? = some a ∧ (putL env rs args')[i]? = some (some a) := fun {i} hi => by
    obtain ⟨k, hk⟩ := slots_mem hi
    obtain ⟨v, h1, h2⟩ := ops_get ok hk
    have h2' : σ[i]? = some (some v) := h2
    have hl : i < env.length := by rw [R.len]; exact (List.getElem?_eq_some_iff.mp h2').1
    have hk' : k < args'.length := by rw [lenA]; exact (List.getElem?_eq_some_iff.mp hk).1
    exact ⟨k, v, hk, h1, h2, args'[k], List.getElem?_eq_getElem hk', putL_in nd hk (List.getElem?_eq_getElem hk') hl⟩
  -- a slot that was not handed over and owns: kept
  have kept : ∀ {i : Nat} {o : O} {p b : Addr}, i ∉ slotsOf rs → env[i]? = some (some (.ow o)) → σ[i]? = some (some (.ref p)) → Has p o b → (∀ u, H b = some u → H' b = some u) ∧ F' b = none ∧ ¬ Own (sV vs) (eV args') b := fun {i o p b} hi h1 h2 hb => by
    obtain ⟨q, h3, h4, h5⟩ := R.ow i o h1
    rw [h2] at h3; cases h3
    obtain ⟨h6, u, hu⟩ := h5.has h4 b hb
    have hn : ¬ Own (sV vs) (eV args) b := fun z => by
      obtain ⟨i', o', z1, z2, z3⟩ := own_args ok l b z
      have := R.sep i i' o o' b h1 z2 ⟨p, h2, hb⟩ z3
      exact hi (this ▸ z1)
    obtain ⟨q1, q2, q3⟩ := ev.keepTemp hu h6 hn
    exact ⟨fun u' hu' => by rw [hu] at hu'; cases hu'; exact q1, q2, q3⟩
  refine ⟨⟨R'.sub, by rw [putL_len]; exact R.len, fun i d h => ?_, fun i o h => ?_, fun i a C ks ds h => ?_, fun i j o u p h1 h2 h3 h4 => ?_, R.pin, fun b u h => ?_, fun i o p h hn hp => ?_, fun i o b h hb => ?_, fun b u h => ?_⟩, ⟨ev.fs, fun b o h => ?_, fun b o h n => ev.hk b o h fun z => n (ownSub b z), ev.ht, fun b h => ?_⟩, fun b h => ?_⟩
  · by_cases hi : i ∈ slotsOf rs
    · obtain ⟨k, v, h1, h2, h3, a, h4, h5⟩ := inn hi
      rw [h5] at h; cases h
      obtain ⟨v', h6, h7⟩ := R'.fz k d (eV_get.mpr h4)
      rw [sV_get.mp h6] at h2; cases h2
      exact ⟨v, h3, h7⟩
    · rw [putL_out hi] at h
      obtain ⟨v, h1, h2⟩ := R.fz i d h
      exact ⟨v, h1, h2.same ev.fs⟩
  · by_cases hi : i ∈ slotsOf rs
    · obtain ⟨k, v, h1, h2, h3, a, h4, h5⟩ := inn hi
      rw [h5] at h; cases h
      obtain ⟨p, h6, h7, h8⟩ := R'.ow k o (eV_get.mpr h4)
      rw [sV_get.mp h6] at h2; cases h2
      exact ⟨p, h3, h7, h8⟩
    · rw [putL_out hi] at h
      obtain ⟨p, h1, h2, h3⟩ := R.ow i o h
      have k : ∀ b, Has p o b → H' b = H b ∧ F' b = none := fun b hb => by
        obtain ⟨q1, q2, q3⟩ := kept hi h h1 hb
        obtain ⟨_, u, hu⟩ := h3.has h2 b hb
        exact ⟨(q1 u hu).trans hu.symm, q2⟩
      exact ⟨p, h1, (k p .self).2, h3.same ev.fs (k p .self).1 fun b hb => k b (.inr hb)⟩
  · by_cases hi : i ∈ slotsOf rs
    · obtain ⟨k, v, h1, h2, h3, b, h4, h5⟩ := inn hi
      rw [h5] at h; cases h
      obtain ⟨_, _, _, z, _⟩ := R'.ex k a C ks ds (eV_get.mpr h4)
      exact z.elim
    · rw [putL_out hi] at h
      exact (R.ex i a C ks ds h).imp id fun ⟨cl, d, h2, h3⟩ => ⟨cl, d, h2, h3.same ev.fs⟩
  · obtain ⟨p1, h3, h5⟩ := h3
    obtain ⟨p2, h4, h6⟩ := h4
    have one : ∀ {i : Nat} {o : O} {q : Addr}, (putL env rs args')[i]? = some (some (.ow o)) → σ[i]? = some (some (.ref q)) → (i ∈ slotsOf rs ∧ ∃ k : Nat, rs[k]? = some (.sl i) ∧ (eV args')[k]? = some (some (.ow o)) ∧ (sV vs)[k]? = some (some (.ref q))) ∨ (i ∉ slotsOf rs ∧ env[i]? = some (some (.ow o))) := fun {i o q} h h' => by
      by_cases hi : i ∈ slotsOf rs
      · obtain ⟨k, v, a1, a2, a3, a, a4, a5⟩ := inn hi
        rw [a5] at h; cases h
        rw [h'] at a3; cases a3
        exact .inl ⟨hi, k, a1, eV_get.mpr a4, sV_get.mpr a2⟩
      · rw [putL_out hi] at h
        exact .inr ⟨hi, h⟩
    rcases one h1 h3 with ⟨i1, k, k1, k2, k3⟩ | ⟨i1, k1⟩
    · rcases one h2 h4 with ⟨j1, m, m1, m2, m3⟩ | ⟨j1, m1⟩
      · have e := R'.sep k m o u p k2 m2 ⟨p1, k3, h5⟩ ⟨p2, m3, h6⟩
        subst e
        rw [k1] at m1; cases m1; rfl
      · exact absurd ⟨k, o, k2, p1, k3, h5⟩ (kept j1 m1 h4 h6).2.2
    · rcases one h2 h4 with ⟨j1, m, m1, m2, m3⟩ | ⟨j1, m1⟩
      · exact absurd ⟨m, u, m2, p2, m3, h6⟩ (kept i1 k1 h3 h5).2.2
      · exact R.sep i j o u p k1 m1 ⟨p1, h3, h5⟩ ⟨p2, h4, h6⟩
  · obtain ⟨u', hu⟩ := R.old b u h
    exact ev.ht b u' hu
  · by_cases hi : i ∈ slotsOf rs
    · obtain ⟨k, v, a1, a2, a3, a, a4, a5⟩ := inn hi
      rw [a5] at h; cases h
      rw [hp] at a3; cases a3
      have hk : k < args.length := by rw [valL_len l]; exact (List.getElem?_eq_some_iff.mp a1).1
      obtain ⟨o', eo⟩ := backOk_ow bk (List.getElem?_eq_getElem hk) a4
      obtain ⟨r, b1, b2⟩ := valL_get l (List.getElem?_eq_getElem hk)
      rw [a1] at b1; cases b1
      rw [eo] at b2
      obtain ⟨i', e', b3⟩ := valOf_ow b2
      cases e'
      exact R.fr i o' p b3 hn hp
    · rw [putL_out hi] at h
      exact R.fr i o p h hn hp
  · by_cases hi : i ∈ slotsOf rs
    · obtain ⟨k, v, a1, a2, a3, a, a4, a5⟩ := inn hi
      rw [a5] at h; cases h
      exact ⟨R.newN (R'.frN k o b (eV_get.mpr a4) hb).1, R.new (R'.frN k o b (eV_get.mpr a4) hb).1⟩
    · rw [putL_out hi] at h
      exact R.frN i o b h hb
  · obtain ⟨u', hu⟩ := R.oldN b u h
    exact ev.ht b u' hu
  · rcases ev.fn b o h with z | z | z
    · exact .inl z
    · exact .inr (.inl z)
    · exact .inr (.inr (ownSub b z))
  · obtain ⟨i, o, h1, h2⟩ := h
    by_cases hi : i ∈ slotsOf rs
    · obtain ⟨k, v, a1, a2, a3, a, a4, a5⟩ := inn hi
      rw [a5] at h1; cases h1
      obtain ⟨p, h2, h3⟩ := h2
      rw [h2] at a3; cases a3
      rcases ev.aa b ⟨k, o, eV_get.mpr a4, p, sV_get.mpr a2, h3⟩ with z | z
      · exact .inl (ownSub b z)
      · exact .inr z
    · rw [putL_out hi] at h1
      exact .inl ⟨i, o, h1, h2⟩
  · obtain ⟨i, o, h1, h2⟩ := h
    by_cases hi : i ∈ slotsOf rs
    · obtain ⟨k, v, a1, a2, a3, a, a4, a5⟩ := inn hi
      rw [a5] at h1; cases h1
      obtain ⟨p, h2, h3⟩ := h2
      rw [h2] at a3; cases a3
      exact .inl ⟨k, o, eV_get.mpr a4, p, sV_get.mpr a2, h3⟩
    · rw [putL_out hi] at h1
      exact .inr ⟨i, o, h1, h2⟩
end
section
variable {X : Cx} {c : Ct} {W : WX} {e : Expr} {es : List Expr} {wl : AW} {pos p : Pos} {x : Str} {k : Nat} {f : Addr} {fd : FuncData} {ps : List Str} {S : FSpec} {dvs : List V} {ds : List Value}
theorem call_core (mS : MonoF S) (ml : MonoA wl) {σ : St} {H : Hp} {Q : VK} (h : ERd (mdX X) c W (wCall S wl) σ H Q) :
    ARd (mdX X) c W wl σ H fun vs H1 => toSp (mdX X) S vs H1 Q (WE W σ) := by
  obtain ⟨F, env, R, h⟩ := h
  refine ⟨F, env, R, ml.mo (fun rs e1 ⟨args, l, nd, q⟩ => ?_) (fun _ _ z => z) h⟩
  intro vs F1 H1 R1 ev1 ok
  refine ⟨F1, args, R1.toArgs ok l nd, mS.mo (fun r args' ⟨ln, nsl, q⟩ => ?_) (fun xx args' ⟨ln, q⟩ => ?_) q⟩
  · intro v F' H' R' ev rv
    obtain ⟨R2, ev2, ow⟩ := R1.back ok l nd R' ev ln
    refine q v F' H' R2 (ev1.trans ev2) ?_
    cases r with
    | fz d => exact rv
    | sl i => exact absurd rfl (nsl i)
    | ow o =>
      obtain ⟨pp, a1, a2, a3, a4, a5⟩ := rv
      refine ⟨pp, a1, a2, a3, fun b hb z => ?_, fun b hb => ev1.noneOf (a5 b hb)⟩
      rcases ow b z with z | z
      · exact a4 b hb z
      · obtain ⟨u, hu⟩ := R1.own_some z
        rw [a5 b hb] at hu; cases hu
  · intro cl d F' H' R' ev xo
    obtain ⟨R2, ev2, _⟩ := R1.back ok l nd R' ev ln
    exact q cl d F' H' R2 (ev1.trans ev2) xo
end
end LV
namespace LV
open PySem PySem.Spec L2
structure Ks where
  nx : En → Prop
  rt : Rv → En → Prop
  bk : En → Prop
  ct : En → Prop
  ex : XW
abbrev SW := Ks → En → Prop
structure KLe (K K' : Ks) : Prop where
  nx : ∀ e, K.nx e → K'.nx e
  rt : ∀ r e, K.rt r e → K'.rt r e
  bk : ∀ e, K.bk e → K'.bk e
  ct : ∀ e, K.ct e → K'.ct e
  ex : ∀ x e, K.ex x e → K'.ex x e
structure MonoS (w : SW) : Prop where
  mo : ∀ {K K' : Ks} {env : En}, KLe K K' → w K env → w K' env
section
variable (M : Md) (c : Ct) (W : WX) (D : Ends) (F H : Hp) (σ : St) (env : En)
def NxP (N : St → Hp → Prop) : En → Prop := fun env' => ∀ σ' F' H', Rel M c F' H' σ' env' → Evo (Own σ env) (Own σ' env') F H F' H' → N σ' H'
/-- a result, handed out of the def -/
def RetOk (M : Md) (c : Ct) (F' H' : Hp) (σ' : St) (env' : En) (v : V) : Rv → Prop
  | .fz d => Rep M F' v d
  | .ow o => ∃ p, v = .ref p ∧ F' p = none ∧ ORep M F' H' p o ∧ (∀ b, Has p o b → ¬ Own σ' env' b) ∧ c.h₀ p = none ∧ ∀ b ∈ o.inn, c.hN b = none
  | .sl _ => False
def RtP (N : VK) : Rv → En → Prop := fun r env' => ∀ v σ' F' H', Rel M c F' H' σ' env' → Evo (Own σ env) (Own σ' env') F H F' H' → RetOk M c F' H' σ' env' v r → N v H'
def XnP : XW := fun x env' => ∀ cl d σ' F' H', Rel M c F' H' σ' env' → Evo (Own σ env) (Own σ' env') F H F' H' → XOk M F' x cl d → W cl d σ' H'
def KsOf : Ks := ⟨NxP M c F H σ env D.nx, RtP M c F H σ env D.rt, NxP M c F H σ env D.bk, NxP M c F H σ env D.ct, XnP M c W F H σ env⟩
end
def SRd (M : Md) (c : Ct) (W : WX) (w : SW) : TS := fun D σ H => ∃ F env, Rel M c F H σ env ∧ w (KsOf M c W D F H σ env) env
structure SS (X : Cx) (c : Ct) (W : WX) (st : Stmt) (w : SW) : Prop where
  ps : PS X st (SRd (mdX X) c W w)
  mo : MonoS w
structure SSs (X : Cx) (c : Ct) (W : WX) (st : List Stmt) (w : SW) : Prop where
  ps : PSs X st (SRd (mdX X) c W w)
  mo : MonoS w
section
variable {M : Md} {c : Ct} {W : WX} {D : Ends} {F H F1 H1 : Hp} {σ σ1 : St} {env env1 : En}
theorem KsOf.step (e : Evo (Own σ env) (Own σ1 env1) F H F1 H1) : KLe (KsOf M c W D F H σ env) (KsOf M c W D F1 H1 σ1 env1) where
  nx := fun _ h σ' F' H' R' e' => h σ' F' H' R' (e.trans e')
  rt := fun _ _ h v σ' F' H' R' e' ok => h v σ' F' H' R' (e.trans e') ok
  bk := fun _ h σ' F' H' R' e' => h σ' F' H' R' (e.trans e')
  ct := fun _ h σ' F' H' R' e' => h σ' F' H' R' (e.trans e')
  ex := fun _ _ h cl d σ' F' H' R' e' ok => h cl d σ' F' H' R' (e.trans e') ok
theorem SRd.post {w : SW} (m : MonoS w) (R : Rel M c F1 H1 σ1 env1) (e : Evo (Own σ env) (Own σ1 env1) F H F1 H1) (h : w (KsOf M c W D F H σ env) env1) : SRd M c W w D σ1 H1 :=
  ⟨F1, env1, R, m.mo (KsOf.step e) h⟩
theorem XnP.xp {x : Xn} {env' : En} (h : XnP M c W F H σ env x env') : XPost M c W F H σ env x env' := fun cl d F' H' R e ok => h cl d σ F' H' R e ok
end
theorem KLe.refl (K : Ks) : KLe K K := ⟨fun _ h => h, fun _ _ h => h, fun _ h => h, fun _ h => h, fun _ _ h => h⟩
theorem KLe.withNx {K K' : Ks} (h : KLe K K') {n n' : En → Prop} (i : ∀ e, n e → n' e) : KLe { K with nx := n } { K' with nx := n' } := ⟨i, h.rt, h.bk, h.ct, h.ex⟩
section
variable {X : Cx} {c : Ct} {W : WX} {e a b : Expr} {w wa wb : EW} {u : TW} {s1 s2 : SW} {st : Stmt} {rest sa sb : List Stmt} {pos : Pos}
def wSkip : SW := fun K env => K.nx env
def wSeq (s1 s2 : SW) : SW := fun K env => s1 { K with nx := fun e => s2 K e } env
theorem MonoS.skip : MonoS wSkip := ⟨fun k h => k.nx _ h⟩
theorem MonoS.seq (m : MonoS s1) (n : MonoS s2) : MonoS (wSeq s1 s2) := ⟨fun k h => m.mo (k.withNx fun e q => n.mo k q) h⟩
theorem sss_nil : SSs X c W [] wSkip := ⟨PSs.imp pss_nil fun D σ H h => by
  obtain ⟨F, env, R, h⟩ := h
  exact h σ F H R Evo.refl, .skip⟩
theorem sss_one (h : SS X c W st s1) : SSs X c W [st] s1 := ⟨pss_one h.ps, h.mo⟩
theorem sss_cons (h : SS X c W st s1) (h2 : SSs X c W rest s2) : SSs X c W (st :: rest) (wSeq s1 s2) := by
  refine ⟨PSs.imp (pss_cons h.ps h2.ps) fun D σ H q => ?_, .seq h.mo h2.mo⟩
  obtain ⟨F, env, R, q⟩ := q
  refine ⟨F, env, R, h.mo.mo (K := { KsOf (mdX X) c W D F H σ env with nx := fun e => s2 (KsOf (mdX X) c W D F H σ env) e }) ⟨fun e q => ?_, fun _ _ z => z, fun _ z => z, fun _ z => z, fun _ _ z => z⟩ q⟩
  intro σ' F' H' R' ev
  exact SRd.post h2.mo R' ev q
def wBrk : SW := fun K env => K.bk env
def wCnt : SW := fun K env => K.ct env
def wExp (w : EW) : SW := fun K env => w env (fun _ e => K.nx e) K.ex
def wIf (u : TW) (s1 s2 : SW) : SW := fun K env => u env (fun b e => if b = true then s1 K e else s2 K e) K.ex
theorem MonoS.iff (m : MonoT u) (m1 : MonoS s1) (m2 : MonoS s2) : MonoS (wIf u s1 s2) := ⟨fun k h => m.mo (fun b e q => by
  cases b with
  | true => exact m1.mo k q
  | false => exact m2.mo k q) (fun _ _ z => k.ex _ _ z) h⟩
theorem ss_if (h : ST X c W e u) (h1 : SSs X c W sa s1) (h2 : SSs X c W sb s2) : SS X c W (.If e sa sb pos) (wIf u s1 s2) := by
  refine ⟨PS.imp (ps_if h.pt h1.ps h2.ps) fun D σ H q => ?_, .iff h.mo h1.mo h2.mo⟩
  obtain ⟨F, env, R, q⟩ := q
  refine ⟨F, env, R, h.mo.mo (fun b e q => ?_) (fun _ _ z => z.xp) q⟩
  intro F' H' R' ev
  cases b with
  | true => exact SRd.post h1.mo R' ev q
  | false => exact SRd.post h2.mo R' ev q
/-- return e -/
def retR (pn : List Nat) (r : Rv) (env : En) (N : Rv → En → Prop) : Prop :=
  match r with
  | .fz d => N (.fz d) env
  | .ow o => N (.ow o) env
  | .sl i => match env[i]? with
    | some (some (.fz d)) => N (.fz d) env
    | some (some (.ow o)) => if i ∈ pn then N (.fz o.d) (env.set i (some (.fz o.d))) else N (.ow o) (env.set i none)
    | _ => False
def wRet (pn : List Nat) (w : EW) : SW := fun K env => w env (fun r e => retR pn r e K.rt) K.ex
theorem retR_mono {pn : List Nat} {r : Rv} {env : En} {N N' : Rv → En → Prop} (h : ∀ r e, N r e → N' r e) (q : retR pn r env N) : retR pn r env N' := by
  cases r with
  | fz d => exact h _ _ q
  | ow o => exact h _ _ q
  | sl i =>
    unfold retR at q ⊢
    dsimp only at q ⊢
    split at q
    · exact h _ _ q
    · split at q
      · rename_i hi; rw [if_pos hi]; exact h _ _ q
      · rename_i hi; rw [if_neg hi]; exact h _ _ q
    · exact q
theorem ss_ret (h : SE X c W e w) : SS X c W (.Return (some e) pos) (wRet c.pn w) := by
  refine ⟨PS.imp (ps_ret h.pe) fun D σ H q => ?_, ⟨fun k q => h.mo.mo (fun _ _ z => retR_mono (fun _ _ z => k.rt _ _ z) z) (fun _ _ z => k.ex _ _ z) q⟩⟩
  obtain ⟨F, env, R, q⟩ := q
  refine ⟨F, env, R, h.mo.mo (fun r e z => ?_) (fun _ _ z => z.xp) q⟩
  intro v F' H' R' ev ok
  cases r with
  | fz d => exact z v σ F' H' R' ev ok
  | ow o =>
    obtain ⟨p, a1, a2, a3, a4, a5⟩ := ok
    exact z v σ F' H' R' ev ⟨p, a1, a2, a3, a4, R.new (a5 p .self), fun b hb => R.newN (a5 b (.inr hb))⟩
  | sl i =>
    obtain ⟨h1, o, h2⟩ := ok
    simp only [retR, h2] at z
    obtain ⟨p, h3, h4, h5⟩ := R'.ow i o h2
    rw [h1] at h3; cases h3
    split at z
    · obtain ⟨q, F2, a1, a2, a3, a4, _⟩ := R'.freeze h2
      rw [h1] at a1; cases a1
      exact z _ σ F2 H' a2 (ev.trans a4) a3
    · rename_i hpn
      refine z _ σ F' H' (R'.forget i) (ev.trans (Evo.sub own_forget)) ⟨p, rfl, h4, h5, fun b hb zz => ?_, R'.fr i o p h2 hpn h1, fun b hb => (R'.frN i o b h2 hb).1⟩
      obtain ⟨j, o', z1, z2⟩ := zz
      by_cases eq : i = j
      · subst eq
        rw [List.getElem?_set_self (List.getElem?_eq_some_iff.mp h2).1] at z1
        cases z1
      · rw [List.getElem?_set_ne eq] at z1
        exact eq (R'.sep i j o o' b h2 z1 ⟨p, h1, hb⟩ z2)
def wRetN : SW := fun K env => K.rt (.fz .non) env
def setR (i : Nat) (r : Rv) (env : En) (N : En → Prop) : Prop :=
  match r with
  | .fz d => N (env.set i (some (.fz d)))
  | .ow o => N (env.set i (some (.ow o)))
  | .sl j => if i = j then N env else ∃ d e2, frz1 env (.sl j) = some (d, e2) ∧ N (e2.set i (some (.fz d)))
theorem setR_mono {i : Nat} {r : Rv} {env : En} {N N' : En → Prop} (h : ∀ e, N e → N' e) (q : setR i r env N) : setR i r env N' := by
  cases r with
  | fz d => exact h _ q
  | ow o => exact h _ q
  | sl j =>
    unfold setR at q ⊢
    dsimp only at q ⊢
    split
    · rename_i e; rw [if_pos e] at q; exact h _ q
    · rename_i e; rw [if_neg e] at q
      obtain ⟨d, e2, a, q⟩ := q
      exact ⟨d, e2, a, h _ q⟩
def wSet (i : Nat) (w : EW) : SW := fun K env => w env (fun r e => setR i r e K.nx) K.ex
section
variable {M : Md} {F H F' H' : Hp} {σ : St} {env : En}
theorem Rel.setFz' (R : Rel M c F H σ env) {i : Nat} {v : V} {d : D} (hi : i ∉ c.pn) (r : Rep M F v d) : Rel M c F H (σ.set i (some v)) (env.set i (some (.fz d))) := by
  by_cases hl : i < σ.length
  · exact R.setFz hi hl r
  · rw [List.set_eq_of_length_le (by omega), List.set_eq_of_length_le (by rw [R.len]; omega)]
    exact R
theorem Rel.setOw' (R : Rel M c F H σ env) {i : Nat} {p : Addr} {o : O} (hi : i ∉ c.pn) (hp : F p = none) (r : ORep M F H p o) (hn : ∀ b, Has p o b → ¬ Own σ env b) (h0 : c.h₀ p = none) (hN : ∀ b ∈ o.inn, c.hN b = none ∧ c.h₀ b = none) : Rel M c F H (σ.set i (some (.ref p))) (env.set i (some (.ow o))) := by
  by_cases hl : i < σ.length
  · exact R.setOw hi hl hp r hn h0 hN
  · rw [List.set_eq_of_length_le (by omega), List.set_eq_of_length_le (by rw [R.len]; omega)]
    exact R
/-- what the store of r into slot i comes to -/
theorem setR_ok {Fs Hs : Hp} {σs : St} {es : En} {r : Rv} {v : V} {N : En → Prop} {i : Nat} (hi : i ∉ c.pn) (Rs : Rel M c Fs Hs σs es) (R : Rel M c F H σ env) (ev : Evo (Own σs es) (Own σ env) Fs Hs F H) (ok : RvOk M F H Hs σ env v r) (q : setR i r env N) :
    ∃ F' env', N env' ∧ Rel M c F' H (σ.set i (some v)) env' ∧ Evo (Own σs es) (Own (σ.set i (some v)) env') Fs Hs F' H := by
  cases r with
  | fz d => exact ⟨F, _, q, R.setFz' hi ok, ev.trans (Evo.sub own_setFz)⟩
  | ow o =>
    obtain ⟨p, rfl, a2, a3, a4, a5⟩ := ok
    refine ⟨F, _, q, R.setOw' hi a2 a3 a4 (Rs.new (a5 p .self)) (fun b hb => ⟨Rs.newN (a5 b (.inr hb)), Rs.new (a5 b (.inr hb))⟩), ⟨ev.fs, ev.fn, ev.hk, ev.ht, fun b hb => ?_⟩⟩
    rcases own_setOw b hb with z | z
    · exact ev.aa b z
    · exact .inr (a5 b z)
  | sl j =>
    obtain ⟨h1, o, h2⟩ := ok
    unfold setR at q
    dsimp only at q
    split at q
    · rename_i e
      subst e
      have : σ.set i (some v) = σ := by
        apply List.ext_getElem?
        intro k
        by_cases hk : i = k
        · subst hk
          rw [List.getElem?_set_self (List.getElem?_eq_some_iff.mp h1).1, h1]
        · rw [List.getElem?_set_ne hk]
      rw [this]
      exact ⟨F, env, q, R, ev⟩
    · obtain ⟨d, e2, a, q⟩ := q
      obtain ⟨F', R', ev', r'⟩ := frz1_ok (r := .sl j) R h1 a
      exact ⟨F', _, q, R'.setFz' hi r', (ev.trans ev').trans (Evo.sub own_setFz)⟩
end
theorem ss_set {i : Nat} {x : Str} {pos' : Pos} (hi : i ∉ c.pn) (hN : X.N.Nodup) (hx : X.N[i]? = some x) (hl : Loc X.env.scope x) (h : SE X c W e w) (hs : swapsWith e (some (.Name x pos')) pos.line X.env = pure false := by rfl)
    (hf : X.fn x = true ∨ X.env.scope.names.lookup x = some .local := by first | exact .inl rfl | exact .inr rfl | assumption) : SS X c W (.Assign [.Name x pos'] e pos) (wSet i w) := by
  refine ⟨PS.imp (ps_set hN hx hl h.pe hs hf) fun D σ H q => ?_, ⟨fun k q => h.mo.mo (fun _ _ z => setR_mono (fun _ z => k.nx _ z) z) (fun _ _ z => k.ex _ _ z) q⟩⟩
  obtain ⟨F, env, R, q⟩ := q
  refine ⟨F, env, R, h.mo.mo (fun r e z => ?_) (fun _ _ z => z.xp) q⟩
  intro v F' H' R' ev ok
  obtain ⟨F2, e2, n, R2, ev2⟩ := setR_ok hi R R' ev ok z
  exact n _ F2 H' R2 ev2
def wApp (i : Nat) (w : EW) : SW := fun K env => (∃ ds0, env[i]? = some (some (.ow (.lst ds0)))) ∧ wFz w env (fun r e => ∃ ds d e2, r ≠ .sl i ∧ frz1 e r = some (d, e2) ∧ e2[i]? = some (some (.ow (.lst ds))) ∧ ds.length < sizeLine ∧ K.nx (e2.set i (some (.ow (.lst (ds ++ [d])))))) K.ex
theorem ss_app {i : Nat} {x : Str} {p1 p2 p3 : Pos} (h : SE X c W e w) (hx : X.N[i]? = some x := by rfl) (hv : Vis X.env.scope x := by first | exact Or.inl rfl | exact Or.inr (Or.inl rfl) | exact Or.inr (Or.inr rfl))
    (hd : (x == ("__debug__" : Str)) = false := by decide) (hcd : (x == ("__classdict__" : Str)) = false := by decide)
    (hbase : attributeBase (.Name x p1) "append" X.env (eval (.Name x p1) X.env) = eval (.Name x p1) X.env := by rfl)
    (hfew : ((backTo p3 (starEach [e] X.env)).all (fun x => !x.1) && (backToKw p3 (keywordEach [] X.env)).all (fun x => x.1.isSome)
      && decide ([e].length + ([] : List Keyword).length + (if ([] : List Keyword).isEmpty then 0 else 1) < 30)) = true := by rfl)
    (hline : (p2.endLine == p3.line) = true := by rfl) (hs : starEach [e] X.env = (false, eval e X.env) :: starEach [] X.env := by rfl) (hplain : (backTo p3 (starEach [] X.env)).any (·.1) = false := by rfl)
    (hsw : swapsWith (.Call (.Attribute (.Name x p1) "append" p2) [e] [] p3) none pos.line X.env = pure false := by rfl) :
    SS X c W (.Expr (.Call (.Attribute (.Name x p1) "append" p2) [e] [] p3) pos) (wApp i w) := by
  refine ⟨PS.imp (ps_expr (pe_bm PySem.F.plainAttrs_list PySem.F.slot_list_append PySem.F.type_list_append mt_append (pe_var hx hv hd hcd) (pa_cons h.pe pa_nil hs) hbase hfew hline hs hplain) hsw) fun D σ H q => ?_,
    ⟨fun k ⟨q0, q⟩ => ⟨q0, h.mo.fz.mo (fun _ _ ⟨ds, d, e2, n, a, b, l, z⟩ => ⟨ds, d, e2, n, a, b, l, k.nx _ z⟩) (fun _ _ z => k.ex _ _ z) q⟩⟩⟩
  obtain ⟨F, env, R, ⟨ds0, q0⟩, q⟩ := q
  obtain ⟨p, hp, hpF, xs0, hpH, _⟩ := R.ow i _ q0
  refine ⟨.ref p, hp, .inl ⟨rfl, xs0, .inl (.inl hpH)⟩, ?_⟩
  refine opd h.mo R (h.mo.fz.mo (fun _ _ z => z) (fun _ _ z => z.xp) q) fun r e1 v F1 H1 R1 ev1 ok1 ⟨ds, d, e2, ne, a, b, l, z⟩ => ?_
  obtain ⟨F2, R2, ev2, rv⟩ := frz1_ok R1 ok1 a
  obtain ⟨p', h1, h2, xs, h3, h4⟩ := R2.ow i _ b
  rw [hp] at h1; cases h1
  refine ⟨p, xs, v, rfl, rfl, h3, by rw [h4.length]; exact l, ?_⟩
  obtain ⟨R3, ev3⟩ := R2.write (o' := .lst (ds ++ [d])) (u := .lst (xs ++ [v])) b hp ⟨_, upd_same, h4.append (.cons rv .nil)⟩
  exact z σ F2 _ R3 ((ev1.trans ev2).trans ev3)
def wSetIx (i : Nat) (w wi : EW) : SW := fun K env => wFz w env (fun r e1 => (∃ v0, e1[i]? = some (some v0)) ∧ wFz wi e1 (fun ri e2 => ∃ k j ds d e3, look e2 ri = some (.int k) ∧ r ≠ .sl i ∧ frz1 e2 r = some (d, e3) ∧ e3[i]? = some (some (.ow (.lst ds))) ∧ ixN ds.length k = some j ∧ K.nx (e3.set i (some (.ow (.lst (ds.set j d)))))) K.ex) K.ex
theorem ss_setIx {i : Nat} {x : Str} {ei : Expr} {wi : EW} {p1 p2 : Pos} (h : SE X c W e w) (hi : SE X c W ei wi) (hx : X.N[i]? = some x := by rfl) (hv : Vis X.env.scope x := by first | exact Or.inl rfl | exact Or.inr (Or.inl rfl) | exact Or.inr (Or.inr rfl))
    (hd : (x == ("__debug__" : Str)) = false := by decide) (hcd : (x == ("__classdict__" : Str)) = false := by decide)
    (ha : ∀ v, assign (.Subscript (.Name x p1) ei p2) X.env v = (do
      let ov ← holding [v] (eval (.Name x p1) X.env)
      let iv ← holding [v, ov] (eval ei X.env)
      standAt p2
      holding [v, ov, iv] (setItem ov iv v)
      release [v, ov, iv] []) := by intro _; rfl)
    (hs : swapsWithSole [.Subscript (.Name x p1) ei p2] e pos.line X.env = pure false := by rfl) (hw : swappedStores [.Subscript (.Name x p1) ei p2] e X.env = pure none := by rfl)
    (h1 : (assignEach [.Subscript (.Name x p1) ei p2] X.env).map (·.2) = [assign (.Subscript (.Name x p1) ei p2) X.env] := by rfl) :
    SS X c W (.Assign [.Subscript (.Name x p1) ei p2] e pos) (wSetIx i w wi) := by
  refine ⟨PS.imp (ps_asg h.pe (pg_sub (pe_var hx hv hd hcd) hi.pe set_list ha) hs hw h1) fun D σ H q => ?_,
    ⟨fun k q => h.mo.fz.mo (fun _ _ ⟨q0, q⟩ => ⟨q0, hi.mo.fz.mo (fun _ _ ⟨k1, j, ds, d, e3, l, n, a, b, ll, z⟩ => ⟨k1, j, ds, d, e3, l, n, a, b, ll, k.nx _ z⟩) (fun _ _ z => k.ex _ _ z) q⟩) (fun _ _ z => k.ex _ _ z) q⟩⟩
  obtain ⟨F, env, R, q⟩ := q
  refine opd h.mo R (h.mo.fz.mo (fun _ _ z => z) (fun _ _ z => z.xp) q) fun r e1 v F1 H1 R1 ev1 ok1 ⟨⟨v0, q0⟩, q1⟩ => ?_
  have hσ : ∃ v1, σ[i]? = some (some v1) := by
    cases v0 with
    | fz d => obtain ⟨v1, h1, _⟩ := R1.fz i d q0; exact ⟨v1, h1⟩
    | ow o => obtain ⟨p, h1, _⟩ := R1.ow i o q0; exact ⟨_, h1⟩
    | ex a C ks vs => exact ⟨_, (R1.ex i a C ks vs q0).1⟩
  obtain ⟨v1, hv1⟩ := hσ
  refine ⟨v1, hv1, ?_⟩
  refine opd hi.mo R1 (hi.mo.fz.mo (fun _ _ z => z) (fun _ _ z => XPost.step ev1 z.xp) q1) fun ri e2 vi F2 H2 R2 ev2 ok2 ⟨k, j, ds, d, e3, l, ne, a, b, ij, z⟩ => ?_
  have hvi := ok2.vw R2 l
  cases (show vi = .int k from hvi)
  obtain ⟨F3, R3, ev3, rv⟩ := frz1_ok R2 (ok1.same ev2.fs) a
  obtain ⟨p, h1, h2, xs, h3, h4⟩ := R3.ow i _ b
  rw [hv1] at h1; cases h1
  refine ⟨p, xs, k, j, rfl, rfl, h3, by rw [h4.length]; exact ij, ?_⟩
  obtain ⟨R4, ev4⟩ := R3.write (o' := .lst (ds.set j d)) (u := .lst (xs.set j v)) b hv1 ⟨_, upd_same, h4.set rv j⟩
  exact z σ F3 _ R4 (((ev1.trans ev2).trans ev3).trans ev4)
inductive Tg where
  | n (i : Nat)
  | t (is : List Nat)
def Tg.slots : Tg → List Nat
  | .n i => [i]
  | .t is => is
def gNs : List Nat → TGs
  | [] => gNil
  | i :: is => gCons (gName i) (gNs is)
def gT (K : PySem.W.Frag) : Tg → TG
  | .n i => gName i
  | .t is => gTup K is.length (gNs is)
def bindS (env : En) : List Nat → List D → Option En
  | [], [] => some env
  | i :: is, d :: ds => bindS (env.set i (some (.fz d))) is ds
  | _, _ => none
def bindT (tg : Tg) (d : D) (env : En) : Option En :=
  match tg, d with
  | .n i, d => some (env.set i (some (.fz d)))
  | .t is, .tup ds => bindS env is ds
  | _, _ => none
def stS (σ : St) : List Nat → List V → St
  | i :: is, v :: vs => stS (σ.set i (some v)) is vs
  | _, _ => σ
theorem bindS_ok {M : Md} {F H : Hp} : ∀ {is : List Nat} {ds : List D} {vs : List V} {σ : St} {env env' : En} {Q : St → Hp → Prop}, (∀ i ∈ is, i ∉ c.pn) → Rel M c F H σ env → RepL M F vs ds → bindS env is ds = some env' →
    (Rel M c F H (stS σ is vs) env' → (∀ b, Own (stS σ is vs) env' b → Own σ env b) → Q (stS σ is vs) H) → gNs is vs σ H Q
  | [], [], [], σ, env, env', Q, _, R, _, e, q => by cases e; exact ⟨rfl, q R fun _ h => h⟩
  | i :: is, d :: ds, v :: vs, σ, env, env', Q, hi, R, .cons r rs, e, q => by
    refine ⟨v, vs, rfl, ?_⟩
    refine bindS_ok (is := is) (ds := ds) (fun j hj => hi j (List.mem_cons_of_mem _ hj)) (R.setFz' (hi i List.mem_cons_self) r) rs e fun R' ow => ?_
    exact q R' fun b hb => own_setFz b (ow b hb)
  | [], _ :: _, _, _, _, _, _, _, _, _, e, _ => by cases e
  | _ :: _, [], _, _, _, _, _, _, _, _, e, _ => by cases e
def stT (tg : Tg) (x : V) (vs : List V) (σ : St) : St :=
  match tg with
  | .n i => σ.set i (some x)
  | .t is => stS σ is vs
theorem bindT_ok {M : Md} {F H : Hp} {tg : Tg} {x : V} {d : D} {σ : St} {env env' : En} {Q : St → Hp → Prop} (hi : ∀ i ∈ tg.slots, i ∉ c.pn) (R : Rel M c F H σ env) (r : Rep M F x d) (e : bindT tg d env = some env')
    (q : ∀ vs, Rel M c F H (stT tg x vs σ) env' → (∀ b, Own (stT tg x vs σ) env' b → Own σ env b) → Q (stT tg x vs σ) H) : gT M.K tg x σ H Q := by
  cases tg with
  | n i =>
    cases e
    exact q [] (R.setFz' (hi i List.mem_cons_self) r) fun b hb => own_setFz b hb
  | t is =>
    cases r with
    | @tup a xs ds h rl =>
      have hl : xs.length = is.length := by
        rw [rl.length]
        have : ∀ {is : List Nat} {ds : List D} {env : En}, bindS env is ds = some env' → ds.length = is.length := by
          intro is
          induction is with
          | nil => intro ds env h; cases ds with
            | nil => rfl
            | cons _ _ => cases h
          | cons i is ih => intro ds env h; cases ds with
            | nil => cases h
            | cons d ds => rw [List.length_cons, List.length_cons, ih h]
        exact this e
      exact ⟨a, xs, rfl, Same.sqT R.sub h, hl, bindS_ok hi R rl e (q xs)⟩
    | _ => cases e
/-- the targets' own derivation -/
structure SG (X : Cx) (e : Expr) (tg : Tg) : Prop where
  pg : PG X e (gT X.K tg)
theorem sg_name {i : Nat} {x : Str} (hN : X.N.Nodup) (hi : X.N[i]? = some x) (hx : Loc X.env.scope x) (hf : X.fn x = true ∨ X.env.scope.names.lookup x = some .local := by first | exact .inl rfl | exact .inr rfl | assumption) : SG X (.Name x pos) (.n i) := ⟨pg_name hN hi hx hf⟩
theorem sg_tup {es : List Expr} {k : Nat} {is : List Nat} (hc : X.calm = true) (h : PGs X es (gNs is)) (hn : (assignEach es X.env).length = is.length := by rfl) (hst : (assignEach es X.env).findIdx? (·.1) = none := by rfl) : SG X (.Tuple es k pos) (.t is) := ⟨pg_tup hc h hn hst⟩
abbrev KeepE := En → Prop
abbrev IW := En → (List D → KeepE → En → Prop) → XW → Prop
structure MonoI (w : IW) : Prop where
  mo : ∀ {env : En} {Q Q' : List D → KeepE → En → Prop} {E E' : XW}, (∀ xs k e, Q xs k e → Q' xs k e) → (∀ x e, E x e → E' x e) → w env Q E → w env Q' E'
/-- the iterator J gives the items xs, in any later state where keep holds -/
structure Walks (M : Md) (c : Ct) (F : Hp) (J : It) (xs : List D) (keep : KeepE) : Prop where
  stop : ∀ F' H' σ' env', Rel M c F' H' σ' env' → Same F F' → keep env' → ∀ i, xs.length ≤ i → J.stop i H'
  go : ∀ F' H' σ' env', Rel M c F' H' σ' env' → Same F F' → keep env' → ∀ i d, xs[i]? = some d → J.go i H' ∧ ∀ x H'', J.yld i H' x H'' → ∃ F'', Same F'' H'' ∧ Evo Nob Nob F' H' F'' H'' ∧ Rep M F'' x d
def IRd (M : Md) (c : Ct) (W : WX) (w : IW) : TI := fun σ H R => ∃ F env, Rel M c F H σ env ∧ w env (fun xs keep env' => ∀ F' H' J, Rel M c F' H' σ env' → Evo (Own σ env) (Own σ env') F H F' H' → Walks M c F' J xs keep → R J H') (XPost M c W F H σ env)
structure SI (X : Cx) (c : Ct) (W : WX) (tg iter : Expr) (w : IW) : Prop where
  pi : PI X tg iter (IRd (mdX X) c W w)
  mo : MonoI w
def loopW (tg : Tg) (body : SW) (keep : KeepE) (K : Ks) : List D → En → Prop
  | [], env => keep env ∧ K.nx env
  | d :: ds, env => keep env ∧ ∃ e1, bindT tg d env = some e1 ∧ body { K with nx := loopW tg body keep K ds, ct := loopW tg body keep K ds, bk := K.nx } e1
theorem loopW_mono {tg : Tg} {body : SW} {keep : KeepE} {K K' : Ks} (m : MonoS body) (k : KLe K K') : ∀ {ds : List D} {env : En}, loopW tg body keep K ds env → loopW tg body keep K' ds env
  | [], _, ⟨a, h⟩ => ⟨a, k.nx _ h⟩
  | d :: ds, _, ⟨a, e1, b, h⟩ => ⟨a, e1, b, m.mo (K := { K with nx := loopW tg body keep K ds, ct := loopW tg body keep K ds, bk := K.nx }) ⟨fun _ q => loopW_mono m k q, k.rt, k.nx, fun _ q => loopW_mono m k q, k.ex⟩ h⟩
def wFor (tg : Tg) (it : IW) (body : SW) : SW := fun K env => it env (fun xs keep e => loopW tg body keep K xs e) K.ex
theorem PI.imp {X : Cx} {tg e : Expr} {t t' : TI} (h : PI X tg e t) (i : ∀ σ H Q, t' σ H Q → t σ H Q) : PI X tg e t' := ⟨fun pins s σ H Q I q => h.run pins s σ H Q I (i σ H Q q)⟩
theorem ss_for {tgE iter : Expr} {body : List Stmt} {tg : Tg} {it : IW} {wb : SW} (hp : PassesOwn (model X.prog X.w) X.A X.env X.xe) (hc : X.calm = true) (hi : SI X c W tgE iter it) (hg : SG X tgE tg) (hpn : ∀ i ∈ tg.slots, i ∉ c.pn) (hb : SSs X c W body wb)
    (hs : ∀ x, foldedSetIterable iter X.env x = pure x := by intro _; rfl) : SS X c W (.For tgE iter body [] pos) (wFor tg it wb) := by
  refine ⟨PS.imp (ps_for hp hc hi.pi hg.pg hb.ps hs) fun D σ H q => ?_, ⟨fun k q => hi.mo.mo (fun _ _ _ z => loopW_mono hb.mo k z) (fun _ _ z => k.ex _ _ z) q⟩⟩
  obtain ⟨F, env, R, q⟩ := q
  refine ⟨F, env, R, hi.mo.mo (fun xs keep e1 z => ?_) (fun _ _ z => z.xp) q⟩
  intro F1 H1 J R1 ev1 wk
  refine ⟨fun i m σ' H' => m = xs.length - i ∧ i ≤ xs.length ∧ ∃ F' env', Rel (mdX X) c F' H' σ' env' ∧ Same F1 F' ∧ Evo (Own σ env) (Own σ' env') F H F' H' ∧ loopW tg wb keep (KsOf (mdX X) c W D F H σ env) (xs.drop i) env',
    ⟨xs.length, by simp, Nat.zero_le _, F1, e1, R1, Same.refl _, ev1, z⟩, ?_⟩
  rintro i m σ' H' ⟨rfl, hi, F', env', R', sm, ev, lw⟩
  by_cases hlt : i < xs.length
  · have hd : xs.drop i = xs[i] :: xs.drop (i + 1) := List.drop_eq_getElem_cons hlt
    rw [hd] at lw
    obtain ⟨kp, e2, hb2, lw⟩ := lw
    obtain ⟨go, yld⟩ := wk.go F' H' σ' env' R' sm kp i xs[i] (List.getElem?_eq_getElem hlt)
    refine .inr ⟨go, fun σ'' H'' => i + 1 ≤ xs.length ∧ ∃ F'' env'', Rel (mdX X) c F'' H'' σ'' env'' ∧ Same F1 F'' ∧ Evo (Own σ env) (Own σ'' env'') F H F'' H'' ∧ loopW tg wb keep (KsOf (mdX X) c W D F H σ env) (xs.drop (i + 1)) env'',
      fun σ'' H'' ⟨h1, h2⟩ => ⟨xs.length - (i + 1), by omega, rfl, h1, h2⟩, fun x H'' hy => ?_⟩
    obtain ⟨F2, s2, ev2, rx⟩ := yld x H'' hy
    have R2 := R'.evo ev2 s2
    refine bindT_ok hpn R2 rx hb2 fun vs R3 ow3 => ?_
    have ev3 : Evo (Own σ env) (Own (stT tg x vs σ') e2) F H F2 H'' := (ev.trans ev2.nob).trans (Evo.sub ow3)
    have sm3 : Same F1 F2 := sm.trans ev2.fs
    refine ⟨F2, e2, R3, hb.mo.mo (K := { KsOf (mdX X) c W D F H σ env with nx := loopW tg wb keep (KsOf (mdX X) c W D F H σ env) (xs.drop (i + 1)), ct := loopW tg wb keep (KsOf (mdX X) c W D F H σ env) (xs.drop (i + 1)), bk := NxP (mdX X) c F H σ env D.nx }) ⟨fun e q σ4 F4 H4 R4 ev4 => ?_, fun r e q v σ4 F4 H4 R4 ev4 ok => q v σ4 F4 H4 R4 (ev3.trans ev4) ok, fun e q σ4 F4 H4 R4 ev4 => q σ4 F4 H4 R4 (ev3.trans ev4), fun e q σ4 F4 H4 R4 ev4 => ?_, fun x e q cl d σ4 F4 H4 R4 ev4 ok => q cl d σ4 F4 H4 R4 (ev3.trans ev4) ok⟩ lw⟩
    · exact ⟨hlt, F4, e, R4, sm3.trans ev4.fs, ev3.trans ev4, q⟩
    · exact ⟨hlt, F4, e, R4, sm3.trans ev4.fs, ev3.trans ev4, q⟩
  · have e : i = xs.length := by omega
    subst e
    rw [List.drop_length] at lw
    obtain ⟨kp, lw⟩ := lw
    exact .inl ⟨wk.stop F' H' σ' env' R' sm kp _ (Nat.le_refl _), lw σ' F' H' R' ev⟩
end
end LV
namespace LV
open PySem PySem.Spec L2 RZ
def iAny (K : PySem.W.Frag) (te : TE) : TI := fun σ H R => te σ H fun x H1 => (∃ a, x = .ref a ∧ (∃ xs, SqL K H1 a xs) ∧ R (Itl K a) H1) ∨ (∃ a, x = .ref a ∧ (∃ xs, SqT K H1 a xs) ∧ R (Itt K a) H1) ∨ (∃ z, x = .str z ∧ R (Its z) H1)
theorem pi_anyS {X : Cx} {tg e : Expr} {te : TE} (he : PE X e te) : PI X tg e (iAny X.K te) := by
  refine ⟨fun pins s σ H R I h => ?_⟩
  refine thn (he.run pins s σ H _ I h) fun v s1 ⟨x, H1, I1, r1, q1⟩ => ?_
  rcases q1 with ⟨a, rfl, ⟨xs, hq⟩, q⟩ | ⟨a, rfl, ⟨xs, hq⟩, q⟩ | ⟨z, rfl, q⟩
  · cases r1
    obtain ⟨its, rv, p, hz⟩ := I1.list hq
    refine wpAny_pyIter_list p.isList ?_
    refine ⟨s1.heap.objs.size, [s1.heap.objs.size], _, _, H1, rfl, I1.kept (t' := s1.toks) fun b o e => Heap.get?_push_of_some _ e, turn_list a _, ⟨_, Heap.get?_push_size _ rfl, rfl, rfl⟩, fun b hb => ?_, q⟩
    have e : b = s1.heap.objs.size := by simpa using hb
    subst e
    exact I1.fpOk (Nat.le_refl _) (I1.hok.fresh (Nat.le_refl _))
  · cases r1
    obtain ⟨its, rv, p, hz⟩ := I1.tuple hq
    refine wpAny_pyIter_tuple (show s1.heap.IsTuple a its.toArray from p) ?_
    refine ⟨s1.heap.objs.size, [s1.heap.objs.size], _, _, H1, rfl, I1.kept (t' := s1.toks) fun b o e => Heap.get?_push_of_some _ e, turn_tuple a _, ⟨_, Heap.get?_push_size _ rfl, rfl, rfl⟩, fun b hb => ?_, q⟩
    have e : b = s1.heap.objs.size := by simpa using hb
    subst e
    exact I1.fpOk (Nat.le_refl _) (I1.hok.fresh (Nat.le_refl _))
  · obtain ⟨t, rfl⟩ := r1
    cases ha : z.cps.all (· < 128)
    · exact wpAny_pyIter_wide ha (pi_one (tk := s1.toks) I1 _ (turn_str _ z t "str_iterator" (.inr rfl)) ⟨_, Heap.get?_push_size _ rfl, rfl, rfl⟩ q)
    · exact wpAny_pyIter_ascii ha (pi_one (tk := s1.toks) I1 _ (turn_str _ z t "str_ascii_iterator" (.inl rfl)) ⟨_, Heap.get?_push_size _ rfl, rfl, rfl⟩ q)
/-- the items of a value that is walked -/
def itemsD : D → Option (List D)
  | .tup ds => some ds
  | .lst ds => some ds
  | .scr ns => some (ns.map D.int)
  | .str z => some (z.cps.toList.map fun c => D.str ⟨#[c]⟩)
  | _ => none
def yesK : KeepE := fun _ => True
def itR (pn : List Nat) (r : Rv) (e : En) (Q : List D → KeepE → En → Prop) : Prop :=
  match r with
  | .fz d => ∃ xs, itemsD d = some xs ∧ Q xs yesK e
  | .ow o => ∃ xs, itemsD o.d = some xs ∧ Q xs yesK e
  | .sl j => if j ∈ pn then ∃ xs, e[j]? = some (some (.ow (.lst xs))) ∧ Q xs (fun e' => e'[j]? = some (some (.ow (.lst xs)))) e
    else ∃ d e2 xs, frz1 e (.sl j) = some (d, e2) ∧ itemsD d = some xs ∧ Q xs yesK e2
theorem itR_mono {pn : List Nat} {r : Rv} {e : En} {Q Q' : List D → KeepE → En → Prop} (h : ∀ xs k e, Q xs k e → Q' xs k e) (q : itR pn r e Q) : itR pn r e Q' := by
  cases r with
  | fz d => obtain ⟨xs, a, q⟩ := q; exact ⟨xs, a, h _ _ _ q⟩
  | ow o => obtain ⟨xs, a, q⟩ := q; exact ⟨xs, a, h _ _ _ q⟩
  | sl j =>
    unfold itR at q ⊢
    dsimp only at q ⊢
    split at q
    · rename_i hj
      rw [if_pos hj]
      obtain ⟨xs, a, q⟩ := q; exact ⟨xs, a, h _ _ _ q⟩
    · rename_i hj
      rw [if_neg hj]
      obtain ⟨d, e2, xs, a, b, q⟩ := q; exact ⟨d, e2, xs, a, b, h _ _ _ q⟩
def wIt (pn : List Nat) (w : EW) : IW := fun env Q E => w env (fun r e => itR pn r e Q) E
section
variable {X : Cx} {c : Ct} {W : WX} {tg e a b d : Expr} {w wa wb wd : EW} {pos p tpos : Pos} {wl : AW} {es elts : List Expr} {kk : Nat}
theorem MonoI.it {pn : List Nat} (m : Mono w) : MonoI (wIt pn w) := ⟨fun hQ hE h => m.mo (fun _ _ z => itR_mono hQ z) hE h⟩
theorem Walks.list {M : Md} {F H : Hp} {σ : St} {env : En} {p : Addr} {xs : List V} {ds : List D} (h : F p = some (.lst xs)) (r : RepL M F xs ds) : Walks M c F (Itl M.K p) ds yesK := by
  have key : ∀ F' H' σ' env', Rel M c F' H' σ' env' → Same F F' → SqL M.K H' p xs := fun F' H' σ' env' R s => .inl (.inl (R.sub _ _ (s _ _ h)))
  refine ⟨fun F' H' σ' env' R s _ i hi => ⟨xs, key F' H' σ' env' R s, by rw [r.length]; exact hi⟩, fun F' H' σ' env' R s _ i d hd => ?_⟩
  obtain ⟨v, hv, rv⟩ := r.get' hd
  have k := key F' H' σ' env' R s
  refine ⟨⟨xs, v, k, hv⟩, fun x H'' ⟨e, y⟩ => ?_⟩
  subst e
  have := y xs k
  rw [hv] at this; cases this
  exact ⟨F', R.sub, Evo.refl, rv.same s⟩
theorem Walks.keptList {M : Md} {F H : Hp} {σ : St} {env : En} {j : Nat} {p : Addr} {xs : List V} {ds : List D} (hj : j ∈ c.pn) (R0 : Rel M c F H σ env) (hp : σ[j]? = some (some (.ref p))) (h : H p = some (.lst xs)) (r : RepL M F xs ds) :
    Walks M c F (Itl M.K p) ds (fun e' => e'[j]? = some (some (.ow (.lst ds)))) := by
  have key : ∀ F' H' σ' env', Rel M c F' H' σ' env' → env'[j]? = some (some (.ow (.lst ds))) → ∃ ys, SqL M.K H' p ys ∧ RepL M F' ys ds := fun F' H' σ' env' R k => by
    obtain ⟨q, h1, h2, ys, h3, h4⟩ := R.ow j _ k
    rw [R.pin j hj, ← R0.pin j hj, hp] at h1; cases h1
    exact ⟨ys, .inl (.inl h3), h4⟩
  refine ⟨fun F' H' σ' env' R s k i hi => ?_, fun F' H' σ' env' R s k i d hd => ?_⟩
  · obtain ⟨ys, h1, h2⟩ := key F' H' σ' env' R k
    exact ⟨ys, h1, by rw [h2.length]; exact hi⟩
  · obtain ⟨ys, h1, h2⟩ := key F' H' σ' env' R k
    obtain ⟨v, hv, rv⟩ := h2.get' hd
    refine ⟨⟨ys, v, h1, hv⟩, fun x H'' ⟨e, y⟩ => ?_⟩
    subst e
    have := y ys h1
    rw [hv] at this; cases this
    exact ⟨F', R.sub, Evo.refl, rv⟩
theorem Walks.tup {M : Md} {F : Hp} {p : Addr} {xs : List V} {ds : List D} (h : SqT M.K F p xs) (r : RepL M F xs ds) : Walks M c F (Itt M.K p) ds yesK := by
  have key : ∀ F' H' σ' env', Rel M c F' H' σ' env' → Same F F' → SqT M.K H' p xs := fun F' H' σ' env' R s => Same.sqT (s.trans R.sub) h
  refine ⟨fun F' H' σ' env' R s _ i hi => ⟨xs, key F' H' σ' env' R s, by rw [r.length]; exact hi⟩, fun F' H' σ' env' R s _ i d hd => ?_⟩
  obtain ⟨v, hv, rv⟩ := r.get' hd
  have k := key F' H' σ' env' R s
  refine ⟨⟨xs, v, k, hv⟩, fun x H'' ⟨e, y⟩ => ?_⟩
  subst e
  have := y xs k
  rw [hv] at this; cases this
  exact ⟨F', R.sub, Evo.refl, rv.same s⟩
theorem Walks.scr {M : Md} {F : Hp} {p : Addr} {ns : List Int} (h : SqL M.K F p (ns.map V.int)) : Walks M c F (Itl M.K p) (ns.map D.int) yesK := by
  have key : ∀ F' H' σ' env', Rel M c F' H' σ' env' → Same F F' → SqL M.K H' p (ns.map V.int) := fun F' H' σ' env' R s => (s.trans R.sub).seq h
  have r : RepL M F (ns.map V.int) (ns.map D.int) := RepL.of_ints ns
  refine ⟨fun F' H' σ' env' R s _ i hi => ⟨_, key F' H' σ' env' R s, by rw [r.length]; exact hi⟩, fun F' H' σ' env' R s _ i d hd => ?_⟩
  obtain ⟨v, hv, rv⟩ := r.get' hd
  have k := key F' H' σ' env' R s
  refine ⟨⟨_, v, k, hv⟩, fun x H'' ⟨e, y⟩ => ?_⟩
  subst e
  have := y _ k
  rw [hv] at this; cases this
  exact ⟨F', R.sub, Evo.refl, rv.same s⟩
theorem Walks.str {M : Md} {F : Hp} {z : Str} : Walks M c F (Its z) (z.cps.toList.map fun c => D.str ⟨#[c]⟩) yesK := by
  refine ⟨fun F' H' σ' env' R s _ i hi => by simpa [Its] using hi, fun F' H' σ' env' R s _ i d hd => ?_⟩
  rw [List.getElem?_map] at hd
  cases hc : z.cps.toList[i]? with
  | none => rw [hc] at hd; cases hd
  | some cp =>
    rw [hc] at hd; cases hd
    have hc' : z.cps[i]? = some cp := by simpa using hc
    refine ⟨(Array.getElem?_eq_some_iff.mp hc').1, fun x H'' ⟨e, cp', h1, h2⟩ => ?_⟩
    subst e; subst h2
    rw [hc'] at h1; cases h1
    exact ⟨F', R.sub, Evo.refl, .str _⟩
/-- the walk over a value that is data -/
theorem walk_fz {M : Md} {F H : Hp} {σ : St} {env : En} {x : V} {d : D} {xs : List D} {R' : It → Hp → Prop} (R : Rel M c F H σ env) (r : Rep M F x d) (hi : itemsD d = some xs) (q : ∀ J, Walks M c F J xs yesK → R' J H) :
    (∃ a, x = .ref a ∧ (∃ xs, SqL M.K H a xs) ∧ R' (Itl M.K a) H) ∨ (∃ a, x = .ref a ∧ (∃ xs, SqT M.K H a xs) ∧ R' (Itt M.K a) H) ∨ (∃ z, x = .str z ∧ R' (Its z) H) := by
  cases r with
  | tup h r => cases hi; exact .inr (.inl ⟨_, rfl, ⟨_, Same.sqT R.sub h⟩, q _ (Walks.tup h r)⟩)
  | lst h r => cases hi; exact .inl ⟨_, rfl, ⟨_, .inl (.inl (R.sub _ _ h))⟩, q _ (Walks.list (H := H) (σ := σ) (env := env) h r)⟩
  | scr h => cases hi; exact .inl ⟨_, rfl, ⟨_, R.sub.seq h⟩, q _ (Walks.scr h)⟩
  | str z => cases hi; exact .inr (.inr ⟨z, rfl, q _ Walks.str⟩)
  | _ => cases hi
theorem si_it (h : SE X c W e w) : SI X c W tg e (wIt c.pn w) := by
  refine ⟨PI.imp (pi_anyS h.pe) fun σ H R' q => ?_, .it h.mo⟩
  obtain ⟨F, env, R, q⟩ := q
  refine ⟨F, env, R, h.mo.mo (fun r e1 z => ?_) (fun _ _ z => z) q⟩
  intro v F1 H1 R1 ev1 ok
  cases r with
  | fz d =>
    obtain ⟨xs, hx, z⟩ := z
    exact walk_fz R1 ok hx fun J wk => z F1 H1 J R1 ev1 wk
  | ow o =>
    obtain ⟨xs, hx, z⟩ := z
    obtain ⟨F2, R2, ev2, rp⟩ := temp_freeze R1 ev1 ok
    exact walk_fz R2 rp hx fun J wk => z _ H1 J R2 ev2 wk
  | sl j =>
    obtain ⟨h1, o, h2⟩ := ok
    unfold itR at z
    dsimp only at z
    split at z
    · rename_i hj
      obtain ⟨xs, hx, z⟩ := z
      obtain ⟨pp, h3, h4, ys, h5, h6⟩ := R1.ow j _ hx
      rw [h1] at h3; cases h3
      exact .inl ⟨pp, rfl, ⟨ys, .inl (.inl h5)⟩, z F1 H1 _ R1 ev1 (Walks.keptList hj R1 h1 h5 h6)⟩
    · obtain ⟨dd, e2, xs, ha, hx, z⟩ := z
      obtain ⟨F2, R2, ev2, rv⟩ := frz1_ok (r := .sl j) R1 h1 ha
      exact walk_fz R2 rv hx fun J wk => z F2 H1 J R2 (ev1.trans ev2) wk
def rngD (lo : Int) : Nat → List D
  | 0 => []
  | n + 1 => .int lo :: rngD (lo + 1) n
theorem rngD_len : ∀ (n : Nat) (lo : Int), (rngD lo n).length = n
  | 0, _ => rfl
  | n + 1, lo => by rw [rngD, List.length_cons, rngD_len n]
theorem rngD_get : ∀ (n : Nat) (lo : Int) (i : Nat), i < n → (rngD lo n)[i]? = some (.int (lo + i))
  | 0, _, i, h => by omega
  | n + 1, lo, 0, _ => by simp [rngD]
  | n + 1, lo, i + 1, h => by
    rw [rngD, List.getElem?_cons_succ, rngD_get n (lo + 1) i (by omega)]
    congr 2
    omega
theorem Walks.rng {M : Md} {F : Hp} {lo : Int} {n : Nat} : Walks M c F (Itr lo n) (rngD lo n) yesK := by
  refine ⟨fun F' H' σ' env' R s _ i hi => by rw [rngD_len] at hi; exact hi, fun F' H' σ' env' R s _ i d hd => ?_⟩
  have hi : i < n := by
    have := (List.getElem?_eq_some_iff.mp hd).1
    rw [rngD_len] at this; exact this
  rw [rngD_get n lo i hi] at hd; cases hd
  refine ⟨hi, fun x H'' ⟨e, y⟩ => ?_⟩
  subst e; subst y
  exact ⟨F', R.sub, Evo.refl, .int _⟩
/-- range(n), range(a, b) -/
def okR (i : Int) : Prop := -(2 ^ 62) ≤ i ∧ i < 2 ^ 62
def wRng1 (wl : AW) : IW := fun env Q E => wl env (fun rs e => ∃ j, lookL e rs = some [.int j] ∧ okR j ∧ Q (rngD 0 j.toNat) yesK e) E
def wRng2 (wl : AW) : IW := fun env Q E => wl env (fun rs e => ∃ i j, lookL e rs = some [.int i, .int j] ∧ okR i ∧ okR j ∧ Q (rngD i (j - i).toNat) yesK e) E
theorem vwL_int1 {M : Md} {F H : Hp} {vs : List V} {i : Int} (h : VwL M F H vs [.int i]) : vs = [.int i] := by
  match vs, h with
  | [v], ⟨h, _⟩ => cases (show v = .int i from h); rfl
theorem vwL_int2 {M : Md} {F H : Hp} {vs : List V} {i j : Int} (h : VwL M F H vs [.int i, .int j]) : vs = [.int i, .int j] := by
  match vs, h with
  | [v, u], ⟨h, h2, _⟩ => cases (show v = .int i from h); cases (show u = .int j from h2); rfl
theorem si_rng1 (hg : Gl X "range") (hm : X.mg "range" = none) (ha : SA X c W [a] wl) (hs : starEach [a] X.env = [(false, eval a X.env)] := by rfl) : SI X c W tg (.Call (.Name "range" p) [a] [] pos) (wRng1 wl) := by
  refine ⟨PI.imp (pi_range1 hg hm ha.pa hs) fun σ H R' q => ?_, ⟨fun hQ hE h => ha.mo.mo (fun rs e ⟨j, l, o, z⟩ => ⟨j, l, o, hQ _ _ _ z⟩) hE h⟩⟩
  obtain ⟨F, env, R, q⟩ := q
  refine ⟨F, env, R, ha.mo.mo (fun rs e1 ⟨j, l, o, z⟩ => ?_) (fun _ _ z => z) q⟩
  intro vs F1 H1 R1 ev1 ok
  exact ⟨j, vwL_int1 (ok.vw R1 l), o.1, o.2, z F1 H1 _ R1 ev1 Walks.rng⟩
theorem si_rng2 (hg : Gl X "range") (hm : X.mg "range" = none) (ha : SA X c W [a, b] wl) (hs : starEach [a, b] X.env = [(false, eval a X.env), (false, eval b X.env)] := by rfl) (hs2 : starEach [b] X.env = [(false, eval b X.env)] := by rfl) :
    SI X c W tg (.Call (.Name "range" p) [a, b] [] pos) (wRng2 wl) := by
  refine ⟨PI.imp (pi_range2 hg hm ha.pa hs hs2) fun σ H R' q => ?_, ⟨fun hQ hE h => ha.mo.mo (fun rs e ⟨i, j, l, o, o2, z⟩ => ⟨i, j, l, o, o2, hQ _ _ _ z⟩) hE h⟩⟩
  obtain ⟨F, env, R, q⟩ := q
  refine ⟨F, env, R, ha.mo.mo (fun rs e1 ⟨i, j, l, o, o2, z⟩ => ?_) (fun _ _ z => z) q⟩
  intro vs F1 H1 R1 ev1 ok
  exact ⟨i, j, vwL_int2 (ok.vw R1 l), ⟨o.1, o.2, o2.1, o2.2⟩, z F1 H1 _ R1 ev1 Walks.rng⟩
def zipD : List D → List D → List D
  | a :: as, b :: bs => .tup [a, b] :: zipD as bs
  | _, _ => []
theorem zipD_len : ∀ (as bs : List D), (zipD as bs).length = min as.length bs.length
  | [], _ => by simp [zipD]
  | _ :: _, [] => by simp [zipD]
  | a :: as, b :: bs => by rw [zipD, List.length_cons, zipD_len as bs, List.length_cons, List.length_cons]; omega
theorem zipD_get : ∀ {as bs : List D} {i : Nat} {d : D}, (zipD as bs)[i]? = some d → ∃ a b, as[i]? = some a ∧ bs[i]? = some b ∧ d = .tup [a, b]
  | [], _, i, d, h => by simp [zipD] at h
  | _ :: _, [], i, d, h => by simp [zipD] at h
  | a :: as, b :: bs, 0, d, h => by simp [zipD] at h; exact ⟨a, b, rfl, rfl, h.symm⟩
  | a :: as, b :: bs, i + 1, d, h => by
    have h' : (zipD as bs)[i]? = some d := by simpa [zipD] using h
    obtain ⟨x, y, h1, h2, h3⟩ := zipD_get h'
    exact ⟨x, y, by simpa using h1, by simpa using h2, h3⟩
theorem Rel.pair {M : Md} {F H : Hp} {σ : St} {env : En} {x y : V} {dx dy : D} {T : Addr} (R : Rel M c F H σ env) (hT : H T = none) (rx : Rep M F x dx) (ry : Rep M F y dy) :
    ∃ F'', Same F'' (upd H T (.tup [x, y])) ∧ Evo Nob Nob F H F'' (upd H T (.tup [x, y])) ∧ Rep M F'' (.ref T) (.tup [dx, dy]) := by
  have ev := Evo.newF (o := HO.tup [x, y]) hT (R.sub.free hT)
  exact ⟨_, same_newF R.sub hT, ev, .tup (.inl (.inl upd_same)) (.cons (rx.same ev.fs) (.cons (ry.same ev.fs) .nil))⟩
theorem Walks.zipT {M : Md} {F : Hp} {p q : Addr} {xs ys : List V} {as bs : List D} (h : SqT M.K F p xs) (r : RepL M F xs as) (h' : SqT M.K F q ys) (r' : RepL M F ys bs) : Walks M c F (ItzT M.K p q) (zipD as bs) yesK := by
  refine ⟨fun F' H' σ' env' R s _ i hi => ⟨xs, ys, Same.sqT (s.trans R.sub) h, Same.sqT (s.trans R.sub) h', ?_⟩, fun F' H' σ' env' R s _ i d hd => ?_⟩
  · rw [zipD_len] at hi
    rw [r.length, r'.length]
    omega
  · obtain ⟨da, db, h1, h2, rfl⟩ := zipD_get hd
    obtain ⟨x, hx, rx⟩ := r.get' h1
    obtain ⟨y, hy, ry⟩ := r'.get' h2
    have k1 := Same.sqT (s.trans R.sub) h
    have k2 := Same.sqT (s.trans R.sub) h'
    refine ⟨⟨xs, ys, x, y, k1, k2, hx, hy⟩, fun v H'' ⟨T, x', y', e1, hT, e2, f1, f2⟩ => ?_⟩
    subst e1; subst e2
    have := f1 xs k1; rw [hx] at this; cases this
    have := f2 ys k2; rw [hy] at this; cases this
    exact R.pair hT (rx.same s) (ry.same s)
theorem Walks.zipL {M : Md} {F : Hp} {p q : Addr} {xs ys : List V} {as bs : List D} (h : F p = some (.lst xs)) (r : RepL M F xs as) (h' : F q = some (.lst ys)) (r' : RepL M F ys bs) : Walks M c F (Itz M.K p q) (zipD as bs) yesK := by
  have l1 : SqL M.K F p xs := .inl (.inl h)
  have l2 : SqL M.K F q ys := .inl (.inl h')
  refine ⟨fun F' H' σ' env' R s _ i hi => ⟨xs, ys, (s.trans R.sub).seq l1, (s.trans R.sub).seq l2, ?_⟩, fun F' H' σ' env' R s _ i d hd => ?_⟩
  · rw [zipD_len] at hi
    rw [r.length, r'.length]
    omega
  · obtain ⟨da, db, h1, h2, rfl⟩ := zipD_get hd
    obtain ⟨x, hx, rx⟩ := r.get' h1
    obtain ⟨y, hy, ry⟩ := r'.get' h2
    have k1 := (s.trans R.sub).seq l1
    have k2 := (s.trans R.sub).seq l2
    refine ⟨⟨xs, ys, x, y, k1, k2, hx, hy⟩, fun v H'' ⟨T, x', y', e1, hT, e2, f1, f2⟩ => ?_⟩
    subst e1; subst e2
    have := f1 xs k1; rw [hx] at this; cases this
    have := f2 ys k2; rw [hy] at this; cases this
    exact R.pair hT (rx.same s) (ry.same s)
def wZip (wl : AW) : IW := fun env Q E => wl env (fun rs e => ∃ ds e', frzL e rs = some (ds, e') ∧ ((∃ as bs, ds = [.tup as, .tup bs] ∧ Q (zipD as bs) yesK e') ∨ (∃ as bs, ds = [.lst as, .lst bs] ∧ Q (zipD as bs) yesK e'))) E
theorem si_zip (hg : Gl X "zip") (hm : X.mg "zip" = none) (ha : SA X c W [a, b] wl) (hs : starEach [a, b] X.env = (false, eval a X.env) :: starEach [b] X.env := by rfl) (hpl : (backTo pos (starEach [b] X.env)).any (·.1) = false := by rfl) :
    SI X c W (.Tuple elts kk tpos) (.Call (.Name "zip" p) [a, b] [] pos) (wZip wl) := by
  refine ⟨PI.imp (pi_zipA hg hm ha.pa hs hpl) fun σ H R' q => ?_, ⟨fun hQ hE h => ha.mo.mo (fun rs e ⟨ds, e', l, z⟩ => ⟨ds, e', l, by
    rcases z with ⟨x, y, l, z⟩ | ⟨x, y, l, z⟩
    · exact .inl ⟨x, y, l, hQ _ _ _ z⟩
    · exact .inr ⟨x, y, l, hQ _ _ _ z⟩⟩) hE h⟩⟩
  obtain ⟨F, env, R, q⟩ := q
  refine ⟨F, env, R, ha.mo.mo (fun rs e1 ⟨ds, e', l, z⟩ => ?_) (fun _ _ z => z) q⟩
  intro vs F1 H1 R1 ev1 ok
  obtain ⟨F2, R2, ev2, rl⟩ := frzL_ok R1 ok l
  rcases z with ⟨as, bs, rfl, z⟩ | ⟨as, bs, rfl, z⟩
  · cases rl with
    | cons q1 rl =>
      cases rl with
      | cons q2 rl =>
        cases rl
        cases q1 with
        | tup h1 r1 => cases q2 with
          | tup h2 r2 => exact ⟨_, _, _, _, rfl, .inr ⟨Same.sqT R2.sub h1, Same.sqT R2.sub h2, z F2 H1 _ R2 (ev1.trans ev2) (Walks.zipT h1 r1 h2 r2)⟩⟩
  · cases rl with
    | cons q1 rl =>
      cases rl with
      | cons q2 rl =>
        cases rl
        cases q1 with
        | lst h1 r1 => cases q2 with
          | lst h2 r2 => exact ⟨_, _, _, _, rfl, .inl ⟨.inl (.inl (R2.sub _ _ h1)), .inl (.inl (R2.sub _ _ h2)), z F2 H1 _ R2 (ev1.trans ev2) (Walks.zipL h1 r1 h2 r2)⟩⟩
end
end LV
namespace LV
open PySem PySem.Spec L2
def wipeE (env : En) : List Nat → En
  | [] => env
  | v :: vs => (wipeE env vs).set v none
theorem wipeE_len (env : En) : ∀ vs : List Nat, (wipeE env vs).length = env.length
  | [] => rfl
  | v :: vs => by rw [wipeE, List.length_set, wipeE_len env vs]
theorem wipeE_in {env : En} {i : Nat} {x : Val} : ∀ {vs : List Nat}, (wipeE env vs)[i]? = some (some x) → env[i]? = some (some x) ∧ i ∉ vs
  | [], h => ⟨h, by simp⟩
  | v :: vs, h => by
    rw [wipeE] at h
    by_cases hi : v = i
    · subst hi
      by_cases hv : v < (wipeE env vs).length
      · rw [List.getElem?_set_self hv] at h; cases h
      · rw [List.getElem?_eq_none (by simpa using hv)] at h; cases h
    · rw [List.getElem?_set_ne hi] at h
      obtain ⟨h1, h2⟩ := wipeE_in h
      exact ⟨h1, by simp only [List.mem_cons, not_or]; exact ⟨fun e => hi e.symm, h2⟩⟩
theorem wipe_out' {σ : St} {i : Nat} : ∀ {vs : List Nat}, i ∉ vs → (wipe σ vs)[i]? = σ[i]?
  | [], _ => rfl
  | v :: vs, h => by
    have hv : v ≠ i := fun z => h (z ▸ List.mem_cons_self)
    rw [wipe, List.getElem?_set_ne hv, wipe_out' fun z => h (List.mem_cons_of_mem _ z)]
theorem wipe_at {σ : St} {i : Nat} : ∀ {vs : List Nat}, i ∈ vs → (wipe σ vs)[i]? = if i < σ.length then some none else none
  | [], h => nomatch h
  | v :: vs, h => by
    rw [wipe]
    by_cases hv : v = i
    · subst hv
      by_cases hl : v < σ.length
      · rw [List.getElem?_set_self (by rw [wipe_length]; exact hl), if_pos hl]
      · rw [List.getElem?_eq_none (by rw [List.length_set, wipe_length]; omega), if_neg hl]
    · rw [List.getElem?_set_ne hv]
      rcases List.mem_cons.mp h with e | h
      · exact absurd e.symm hv
      · exact wipe_at h
theorem wipe_congr {σ σ' : St} {vs : List Nat} (hl : σ'.length = σ.length) (h : ∀ i, i ∉ vs → σ'[i]? = σ[i]?) : wipe σ' vs = wipe σ vs := by
  apply List.ext_getElem?
  intro i
  by_cases hi : i ∈ vs
  · rw [wipe_at hi, wipe_at hi, hl]
  · rw [wipe_out' hi, wipe_out' hi, h i hi]
theorem stS_len : ∀ {is : List Nat} {vs : List V} {σ : St}, (stS σ is vs).length = σ.length
  | [], _, _ => by unfold stS; rfl
  | i :: is, [], _ => rfl
  | i :: is, v :: vs, σ => by
    show (stS (σ.set i (some v)) is vs).length = _
    rw [stS_len, List.length_set]
theorem stS_out : ∀ {is : List Nat} {vs : List V} {σ : St} {j : Nat}, j ∉ is → (stS σ is vs)[j]? = σ[j]?
  | [], _, _, _, _ => by unfold stS; rfl
  | i :: is, [], _, _, _ => rfl
  | i :: is, v :: vs, σ, j, h => by
    have hi : i ≠ j := fun z => h (z ▸ List.mem_cons_self)
    show (stS (σ.set i (some v)) is vs)[j]? = _
    rw [stS_out fun z => h (List.mem_cons_of_mem _ z), List.getElem?_set_ne hi]
theorem wipe_stT {tg : Tg} {x : V} {us : List V} {σ : St} {vs : List Nat} (h : ∀ i ∈ tg.slots, i ∈ vs) : wipe (stT tg x us (wipe σ vs)) vs = wipe σ vs := by
  refine wipe_congr ?_ fun i hi => ?_
  · cases tg with
    | n j => show ((wipe σ vs).set j _).length = _; rw [List.length_set, wipe_length]
    | t is => show (stS (wipe σ vs) is us).length = _; rw [stS_len, wipe_length]
  · cases tg with
    | n j =>
      have : j ≠ i := fun z => hi (z ▸ h j List.mem_cons_self)
      show ((wipe σ vs).set j _)[i]? = _
      rw [List.getElem?_set_ne this, wipe_out' hi]
    | t is =>
      show (stS (wipe σ vs) is us)[i]? = _
      rw [stS_out (is := is) fun z => hi (h i z), wipe_out' hi]
section
variable {M : Md} {c : Ct} {F H : Hp} {σ : St} {env : En} {vs : List Nat}
theorem Rel.wiped (R : Rel M c F H σ env) (hv : ∀ i ∈ vs, i ∉ c.pn) : Rel M c F H (wipe σ vs) (wipeE env vs) := by
  refine ⟨R.sub, by rw [wipe_length, wipeE_len]; exact R.len, fun i d h => ?_, fun i o h => ?_, fun i a C ks ds h => ?_, fun i j o u p h1 h2 h3 h4 => ?_, fun i hi => ?_, R.old, fun i o p h hn hp => ?_, fun i o b h hb => ?_, R.oldN⟩
  · obtain ⟨h1, h2⟩ := wipeE_in h
    rw [wipe_out' h2]; exact R.fz i d h1
  · obtain ⟨h1, h2⟩ := wipeE_in h
    rw [wipe_out' h2]; exact R.ow i o h1
  · obtain ⟨h1, h2⟩ := wipeE_in h
    rw [wipe_out' h2]; exact R.ex i a C ks ds h1
  · obtain ⟨a1, a2⟩ := wipeE_in h1
    obtain ⟨b1, b2⟩ := wipeE_in h2
    rw [wipe_out' a2] at h3
    rw [wipe_out' b2] at h4
    exact R.sep i j o u p a1 b1 h3 h4
  · rw [wipe_out' fun z => hv i z hi]; exact R.pin i hi
  · obtain ⟨h1, h2⟩ := wipeE_in h
    rw [wipe_out' h2] at hp
    exact R.fr i o p h1 hn hp
  · exact R.frN i o b (wipeE_in h).1 hb
theorem own_wipe : ∀ b, Own (wipe σ vs) (wipeE env vs) b → Own σ env b := fun b ⟨i, o, h1, h2⟩ => by
  obtain ⟨a1, a2⟩ := wipeE_in h1
  rw [wipe_out' a2] at h2
  exact ⟨i, o, a1, h2⟩
theorem Rel.unwipe (R : Rel M c F H (wipe σ vs) (wipeE env vs)) (hv : ∀ i ∈ vs, i ∉ c.pn) : Rel M c F H σ (wipeE env vs) := by
  refine ⟨R.sub, by have := R.len; rw [wipe_length] at this; exact this, fun i d h => ?_, fun i o h => ?_, fun i a C ks ds h => ?_, fun i j o u p h1 h2 h3 h4 => ?_, fun i hi => ?_, R.old, fun i o p h hn hp => ?_, fun i o b h hb => ?_, R.oldN⟩
  · have h2 := (wipeE_in h).2
    obtain ⟨v, a, b⟩ := R.fz i d h
    rw [wipe_out' h2] at a; exact ⟨v, a, b⟩
  · have h2 := (wipeE_in h).2
    obtain ⟨v, a, b⟩ := R.ow i o h
    rw [wipe_out' h2] at a; exact ⟨v, a, b⟩
  · have h2 := (wipeE_in h).2
    have := R.ex i a C ks ds h
    rw [wipe_out' h2] at this; exact this
  · have a2 := (wipeE_in h1).2
    have b2 := (wipeE_in h2).2
    exact R.sep i j o u p h1 h2 (by rw [wipe_out' a2]; exact h3) (by rw [wipe_out' b2]; exact h4)
  · have := R.pin i hi
    rw [wipe_out' fun z => hv i z hi] at this; exact this
  · have h2 := (wipeE_in h).2
    exact R.fr i o p h hn (by rw [wipe_out' h2]; exact hp)
  · exact R.frN i o b h hb
theorem own_unwipe : ∀ b, Own σ (wipeE env vs) b → Own (wipe σ vs) (wipeE env vs) b := fun b ⟨i, o, h1, h2⟩ => by
  have a2 := (wipeE_in h1).2
  exact ⟨i, o, h1, by rw [wipe_out' a2]; exact h2⟩
end
abbrev W0 : WX := fun _ _ _ _ => False
abbrev X0 : XW := fun _ _ => False
def compW (tg : Tg) (u : TW) (w : EW) (vs : List Nat) (keep : KeepE) (Q : List D → En → Prop) : List D → List D → En → Prop
  | [], acc, env => keep env ∧ Q acc env
  | d :: ds, acc, env => keep env ∧ ∃ e1, bindT tg d env = some e1 ∧ u e1 (fun b e2 => if b = true then wFz w e2 (fun r e3 => ∃ dd e4, frz1 e3 r = some (dd, e4) ∧ acc.length < sizeLine ∧ compW tg u w vs keep Q ds (acc ++ [dd]) (wipeE e4 vs)) X0 else compW tg u w vs keep Q ds acc (wipeE e2 vs)) X0
theorem compW_mono {tg : Tg} {u : TW} {w : EW} {vs : List Nat} {keep : KeepE} {Q Q' : List D → En → Prop} (mu : MonoT u) (mw : Mono w) (h : ∀ a e, Q a e → Q' a e) : ∀ {ds acc : List D} {env : En}, compW tg u w vs keep Q ds acc env → compW tg u w vs keep Q' ds acc env
  | [], _, _, ⟨a, q⟩ => ⟨a, h _ _ q⟩
  | d :: ds, acc, env, ⟨a, e1, b, q⟩ => ⟨a, e1, b, mu.mo (fun k e2 q => by
    cases k with
    | true =>
      rw [if_pos rfl] at q ⊢
      exact mw.fz.mo (fun r e3 ⟨dd, e4, f, l, q⟩ => ⟨dd, e4, f, l, compW_mono mu mw h q⟩) (fun _ _ z => z) q
    | false =>
      rw [if_neg Bool.false_ne_true] at q ⊢
      exact compW_mono mu mw h q) (fun _ _ z => z) q⟩
def wLc (tg : Tg) (it : IW) (u : TW) (w : EW) (vs : List Nat) : EW := fun env Q E => it env (fun xs keep e => compW tg u w vs keep (fun acc e' => Q (.ow (.lst acc)) e') xs [] (wipeE e vs)) E
theorem Mono.lc {tg : Tg} {it : IW} {u : TW} {w : EW} {vs : List Nat} (mi : MonoI it) (mu : MonoT u) (mw : Mono w) : Mono (wLc tg it u w vs) := ⟨fun hQ hE h => mi.mo (fun _ _ _ z => compW_mono mu mw (fun _ _ q => hQ _ _ q) z) hE h⟩
def uYes : TW := fun env Q _ => Q true env
structure STs (X : Cx) (c : Ct) (W : WX) (es : List Expr) (w : TW) : Prop where
  pt : PTs X es (TRd (mdX X) c W w)
  mo : MonoT w
theorem sts_nil {X : Cx} {c : Ct} {W : WX} : STs X c W [] uYes := ⟨⟨fun pins s σ H Q I h => by
  obtain ⟨F, env, R, h⟩ := h
  exact pts_nil.run pins s σ H Q I (h F H R Evo.refl)⟩, ⟨fun hQ _ h => hQ _ _ h⟩⟩
theorem sts_one {X : Cx} {c : Ct} {W : WX} {e : Expr} {u : TW} (h : ST X c W e u) : STs X c W [e] u := ⟨pts_one h.pt, h.mo⟩
section
variable {M : Md} {c : Ct} {W : WX} {σ : St} {H : Hp}
theorem lc_rd {tg : Tg} {it : IW} {u : TW} {w : EW} {vs : List Nat} {Q : VK} (mi : MonoI it) (mu : MonoT u) (mw : Mono w) (hv : ∀ i ∈ vs, i ∉ c.pn) (ht : ∀ i ∈ tg.slots, i ∈ vs)
    (h : ERd M c W (wLc tg it u w vs) σ H Q) : tLc (IRd M c W it) (gT M.K tg) (TRd M c W0 u) (ERd M c W0 w) vs σ H Q := by
  obtain ⟨F, env, R, h⟩ := h
  refine ⟨F, env, R, mi.mo (fun xs keep e1 z => ?_) (fun _ _ z => z) h⟩
  intro F1 H1 J R1 ev1 wk D hD
  have hDF : F1 D = none := R1.sub.free hD
  have R2 : Rel M c F1 (upd H1 D (.lst [])) (wipe σ vs) (wipeE e1 vs) := (R1.evo (Evo.newO hD) (same_newO R1.sub hD)).wiped hv
  refine ⟨fun i m H' => m = xs.length - i ∧ i ≤ xs.length ∧ ∃ F' e0 acc accV, Rel M c F' H' (wipe σ vs) (wipeE e0 vs) ∧ Same F1 F' ∧ Evo (Own σ env) (Own (wipe σ vs) (wipeE e0 vs)) F H F' H' ∧ H' D = some (.lst accV) ∧ F' D = none ∧ ¬ Own (wipe σ vs) (wipeE e0 vs) D ∧ RepL M F' accV acc ∧
      compW tg u w vs keep (fun acc e' => EPost M c F H σ env Q (.ow (.lst acc)) e') (xs.drop i) acc (wipeE e0 vs),
    ⟨xs.length, by simp, Nat.zero_le _, F1, e1, [], [], R2, Same.refl _, (ev1.trans (Evo.newO hD).nob).trans (Evo.sub own_wipe), upd_same, hDF, fun z => R1.notOwn hD (own_wipe _ z), .nil, z⟩, ?_⟩
  rintro i m H' ⟨rfl, hi, F', e0, acc, accV, R', sm, ev, hDH, hDF', hDo, ra, cw⟩
  have wkk : ∀ {env' : En} {σ' : St} {F'' H'' : Hp}, True := fun {_ _ _ _} => True.intro
  by_cases hlt : i < xs.length
  · have hd : xs.drop i = xs[i] :: xs.drop (i + 1) := List.drop_eq_getElem_cons hlt
    rw [hd] at cw
    obtain ⟨kp, e2, hb2, cw⟩ := cw
    obtain ⟨go, yld⟩ := wk.go F' H' (wipe σ vs) (wipeE e0 vs) R' sm kp i xs[i] (List.getElem?_eq_getElem hlt)
    refine .inr ⟨go, fun H'' => ∃ F' e0 acc accV, Rel M c F' H'' (wipe σ vs) (wipeE e0 vs) ∧ Same F1 F' ∧ Evo (Own σ env) (Own (wipe σ vs) (wipeE e0 vs)) F H F' H'' ∧ H'' D = some (.lst accV) ∧ F' D = none ∧ ¬ Own (wipe σ vs) (wipeE e0 vs) D ∧ RepL M F' accV acc ∧
      compW tg u w vs keep (fun acc e' => EPost M c F H σ env Q (.ow (.lst acc)) e') (xs.drop (i + 1)) acc (wipeE e0 vs),
      fun H'' h => ⟨xs.length - (i + 1), by omega, rfl, hlt, h⟩, fun x H'' hy => ?_⟩
    obtain ⟨F2, s2, ev2, rx⟩ := yld x H'' hy
    have R2' := R'.evo ev2 s2
    obtain ⟨k1, k2, k3⟩ := ev2.nob.keepTemp (A := Own (wipe σ vs) (wipeE e0 vs)) hDH hDF' hDo
    refine bindT_ok (fun j hj => hv j (ht j hj)) R2' rx hb2 fun us R3 ow3 => ?_
    have w1 : wipe (stT tg x us (wipe σ vs)) vs = wipe σ vs := wipe_stT ht
    refine ⟨w1, ?_⟩
    have ev3 : Evo (Own σ env) (Own (stT tg x us (wipe σ vs)) e2) F H F2 H'' := (ev.trans ev2.nob).trans (Evo.sub ow3)
    have d3 : ¬ Own (stT tg x us (wipe σ vs)) e2 D := fun z => hDo (ow3 D z)
    refine ⟨F2, e2, R3, mu.mo (fun b e4 q => ?_) (fun _ _ z => z.elim) cw⟩
    intro F4 H4 R4 ev4
    obtain ⟨l1, l2, l3⟩ := ev4.keepTemp k1 k2 d3
    cases b with
    | false =>
      rw [if_neg Bool.false_ne_true] at q ⊢
      have R5 := R4.wiped hv
      rw [w1] at R5
      have o5 : ∀ b, Own (wipe σ vs) (wipeE e4 vs) b → Own (stT tg x us (wipe σ vs)) e4 b := fun b hb => own_wipe b (by rw [w1]; exact hb)
      exact ⟨F4, e4, acc, accV, R5, (sm.trans ev2.fs).trans ev4.fs, (ev3.trans ev4).trans (Evo.sub o5), l1, l2, fun z => l3 (o5 D z), ra.same (ev2.fs.trans ev4.fs), q⟩
    | true =>
      rw [if_pos rfl] at q ⊢
      refine opd mw R4 (mw.fz.mo (fun _ _ z => z) (fun _ _ z => z.elim) q) fun r e5 v F5 H5 R5 ev5 ok5 ⟨dd, e6, hf, hl, q⟩ => ?_
      obtain ⟨F6, R6, ev6, rv⟩ := frz1_ok R5 ok5 hf
      have ev56 := ev5.trans ev6
      obtain ⟨m1, m2, m3⟩ := ev56.keepTemp l1 l2 l3
      refine ⟨accV, m1, by rw [(ra.same (F' := F6) ((ev2.fs.trans ev4.fs).trans ev56.fs)).length]; exact hl, ?_⟩
      have R7 : Rel M c F6 (upd H5 D (.lst (accV ++ [v]))) (stT tg x us (wipe σ vs)) e6 := R6.tempW m2 m3
      have H0D : H D = none := ev1.noneOf hD
      have evA := (ev3.trans ev4).trans ev56
      have ev7 : Evo (Own σ env) (Own (stT tg x us (wipe σ vs)) e6) F H F6 (upd H5 D (.lst (accV ++ [v]))) := by
        refine ⟨evA.fs, evA.fn, fun b o hb hn => ?_, fun b o hb => ?_, evA.aa⟩
        · have : b ≠ D := fun z => by rw [z, H0D] at hb; cases hb
          rw [upd_ne this]; exact evA.hk b o hb hn
        · by_cases hbd : b = D
          · exact ⟨_, by rw [hbd]; exact upd_same⟩
          · rw [upd_ne hbd]; exact evA.ht b o hb
      have R8 := R7.wiped hv
      rw [w1] at R8
      have o8 : ∀ b, Own (wipe σ vs) (wipeE e6 vs) b → Own (stT tg x us (wipe σ vs)) e6 b := fun b hb => own_wipe b (by rw [w1]; exact hb)
      exact ⟨F6, e6, acc ++ [dd], accV ++ [v], R8, ((sm.trans ev2.fs).trans ev4.fs).trans ev56.fs, ev7.trans (Evo.sub o8), upd_same, m2, fun z => m3 (o8 D z), (ra.same ((ev2.fs.trans ev4.fs).trans ev56.fs)).append (.cons rv .nil), q⟩
  · have e : i = xs.length := by omega
    subst e
    rw [List.drop_length] at cw
    obtain ⟨kp, cw⟩ := cw
    refine .inl ⟨wk.stop F' H' (wipe σ vs) (wipeE e0 vs) R' sm kp _ (Nat.le_refl _), ?_⟩
    exact cw (.ref D) F' H' (R'.unwipe hv) (ev.trans (Evo.sub own_unwipe)) ⟨D, rfl, hDF', ⟨accV, hDH, ra⟩, hO fun z => hDo (own_unwipe D z), hH (ev1.noneOf hD)⟩
end
section
variable {X : Cx} {c : Ct} {W : WX} {elt tgE iter : Expr} {ifs : List Expr} {scope : Scope} {own : List (Str × Nat)} {pos : Pos} {tg : Tg} {it : IW} {u : TW} {w : EW}
theorem se_lc (hc : X.calm = true) (hN : X.N.Nodup) (hi : SI X c W tgE iter it) (ok : BlkOk X.N X.env.scope scope own) (hv : ∀ i ∈ own.map (·.2), i ∉ c.pn) (ht : ∀ i ∈ tg.slots, i ∈ own.map (·.2)) (mu : MonoT u) (mw : Mono w)
    (hg : ∀ (s : Shared) (H : Hp) (C : Addr) (cl : List (Str × Addr)) (fp : List Addr), SG (X.blk s H scope (compEnvC scope cl C X.env) fp) tgE tg)
    (hu : ∀ (s : Shared) (H : Hp) (C : Addr) (cl : List (Str × Addr)) (fp : List Addr), STs (X.blk s H scope (compEnvC scope cl C X.env) fp) c W0 ifs u)
    (he : ∀ (s : Shared) (H : Hp) (C : Addr) (cl : List (Str × Addr)) (fp : List Addr), SE (X.blk s H scope (compEnvC scope cl C X.env) fp) c W0 elt w)
    (hs : ∀ x, foldedSetIterable iter X.env x = pure x := by intro _; rfl) : SE X c W (.ListComp elt [⟨tgE, iter, ifs, 0⟩] scope pos) (wLc tg it u w (own.map (·.2))) :=
  ⟨PE.imp (pe_lc (te := ERd (mdX X) c W0 w) (tt := TRd (mdX X) c W0 u) (g := gT X.K tg) hc hN hi.pi ok (fun s H C cl fp => (hg s H C cl fp).pg) (fun s H C cl fp => (hu s H C cl fp).pt) (fun s H C cl fp => (he s H C cl fp).pe) hs) fun σ H Q h => lc_rd hi.mo mu mw hv ht h, .lc hi.mo mu mw⟩
theorem ss_setLc {i : Nat} {y : Str} {py spos : Pos} (hip : i ∉ c.pn) (hc : X.calm = true) (hN : X.N.Nodup) (hy : X.N[i]? = some y) (hyl : X.env.scope.names.lookup y = some .local)
    (hsw : swapsWith (.ListComp elt [⟨tgE, iter, ifs, 0⟩] scope pos) (some (.Name y py)) spos.line X.env = pure true) (hi : SI X c W tgE iter it) (ok : BlkOk X.N X.env.scope scope own) (hv : ∀ i ∈ own.map (·.2), i ∉ c.pn) (ht : ∀ i ∈ tg.slots, i ∈ own.map (·.2)) (mu : MonoT u) (mw : Mono w)
    (hg : ∀ (s : Shared) (H : Hp) (C : Addr) (cl : List (Str × Addr)) (fp : List Addr), SG (X.blk s H scope (compEnvC scope cl C X.env) fp) tgE tg)
    (hu : ∀ (s : Shared) (H : Hp) (C : Addr) (cl : List (Str × Addr)) (fp : List Addr), STs (X.blk s H scope (compEnvC scope cl C X.env) fp) c W0 ifs u)
    (he : ∀ (s : Shared) (H : Hp) (C : Addr) (cl : List (Str × Addr)) (fp : List Addr), SE (X.blk s H scope (compEnvC scope cl C X.env) fp) c W0 elt w)
    (hs : ∀ x, foldedSetIterable iter X.env x = pure x := by intro _; rfl) : SS X c W (.Assign [.Name y py] (.ListComp elt [⟨tgE, iter, ifs, 0⟩] scope pos) spos) (wSet i (wLc tg it u w (own.map (·.2)))) := by
  have mm : Mono (wLc tg it u w (own.map (·.2))) := .lc hi.mo mu mw
  refine ⟨PS.imp (ps_setLc (te := ERd (mdX X) c W0 w) (tt := TRd (mdX X) c W0 u) (g := gT X.K tg) hc hN hy hyl hsw hi.pi ok (fun s H C cl fp => (hg s H C cl fp).pg) (fun s H C cl fp => (hu s H C cl fp).pt) (fun s H C cl fp => (he s H C cl fp).pe) hs) fun D σ H q => ?_,
    ⟨fun k q => mm.mo (fun _ _ z => setR_mono (fun _ z => k.nx _ z) z) (fun _ _ z => k.ex _ _ z) q⟩⟩
  obtain ⟨F, env, R, q⟩ := q
  refine lc_rd hi.mo mu mw hv ht ⟨F, env, R, mm.mo (fun r e z => ?_) (fun _ _ z => z.xp) q⟩
  intro v F' H' R' ev ok
  obtain ⟨F2, e2, n, R2, ev2⟩ := setR_ok hip R R' ev ok z
  exact n _ F2 H' R2 ev2
end
end LV
namespace LV
open PySem PySem.Spec L2
def startE (n : Nat) (args : List Val) : En := args.map some ++ List.replicate (n - args.length) none
/-- the arguments at the end: a pinned slot's as it stands, another one's as it was -/
def finA (pn : List Nat) (env : En) : Nat → List Val → Option (List Val)
  | _, [] => some []
  | j, a :: as => match (if j ∈ pn then (env[j]?).getD none else some a), finA pn env (j + 1) as with
    | some v, some vs => some (v :: vs)
    | _, _ => none
def KsFn (pn : List Nat) (args : List Val) (Q : Rv → List Val → Prop) (E : Xn → List Val → Prop) : Ks where
  nx := fun env => ∃ as, finA pn env 0 args = some as ∧ Q (.fz .non) as
  rt := fun r env => ∃ as, finA pn env 0 args = some as ∧ Q r as
  bk := fun _ => False
  ct := fun _ => False
  ex := fun x env => ∃ as, finA pn env 0 args = some as ∧ E x as
theorem finA_get {pn : List Nat} {env : En} : ∀ {args as : List Val} {j k : Nat} {a : Val}, finA pn env j args = some as → as[k]? = some a →
    ∃ b, args[k]? = some b ∧ ((j + k ∈ pn ∧ env[j + k]? = some (some a)) ∨ (j + k ∉ pn ∧ a = b))
  | [], _, j, k, a, h, e => by cases h; simp at e
  | b :: args, as, j, k, a, h, e => by
    unfold finA at h
    cases h1 : (if j ∈ pn then (env[j]?).getD none else some b) with
    | none => rw [h1] at h; cases h
    | some v =>
      cases h2 : finA pn env (j + 1) args with
      | none => rw [h1, h2] at h; cases h
      | some vs =>
        rw [h1, h2] at h; cases h
        cases k with
        | zero =>
          simp at e; subst e
          refine ⟨b, rfl, ?_⟩
          by_cases hj : j ∈ pn
          · rw [if_pos hj] at h1
            refine .inl ⟨hj, ?_⟩
            show env[j]? = _
            cases he : env[j]? with
            | none => rw [he] at h1; cases h1
            | some x => rw [he] at h1; simp at h1; rw [h1]
          · rw [if_neg hj] at h1; cases h1
            exact .inr ⟨hj, rfl⟩
        | succ k =>
          obtain ⟨c, h3, h4⟩ := finA_get (j := j + 1) (k := k) h2 (by simpa using e)
          refine ⟨c, by simpa using h3, ?_⟩
          rw [show j + 1 + k = j + (k + 1) by omega] at h4
          exact h4
theorem finA_len {pn : List Nat} {env : En} : ∀ {args as : List Val} {j : Nat}, finA pn env j args = some as → as.length = args.length
  | [], _, j, h => by cases h; rfl
  | b :: args, as, j, h => by
    unfold finA at h
    cases h1 : (if j ∈ pn then (env[j]?).getD none else some b) with
    | none => rw [h1] at h; cases h
    | some v =>
      cases h2 : finA pn env (j + 1) args with
      | none => rw [h1, h2] at h; cases h
      | some vs => rw [h1, h2] at h; cases h; rw [List.length_cons, List.length_cons, finA_len h2]
/-- what a spec must say of its arguments -/
structure ArgsFit (pn : List Nat) (n : Nat) (args : List Val) : Prop where
  len : args.length = n
  ow : ∀ (j : Nat) (o : O), args[j]? = some (.ow o) → j ∈ pn
  ex : ∀ (j : Nat) (a : Addr) (C : Str) (ks : List Str) (vs : List D), args[j]? ≠ some (.ex a C ks vs)
theorem startE_get {n : Nat} {args : List Val} {j : Nat} {a : Val} : (startE n args)[j]? = some (some a) ↔ args[j]? = some a := by
  unfold startE
  by_cases h : j < args.length
  · rw [List.getElem?_append_left (by simpa using h), List.getElem?_map]
    cases args[j]? <;> simp
  · rw [List.getElem?_append_right (by simpa using h), List.getElem?_replicate, List.getElem?_eq_none (by omega)]
    split <;> simp
theorem start_get {N : List Str} {vs : List V} {j : Nat} {v : V} : (start N vs)[j]? = some (some v) ↔ vs[j]? = some v := by
  unfold L2.start
  by_cases h : j < vs.length
  · rw [List.getElem?_append_left (by simpa using h), List.getElem?_map]
    cases vs[j]? <;> simp
  · rw [List.getElem?_append_right (by simpa using h), List.getElem?_replicate, List.getElem?_eq_none (by omega)]
    split <;> simp
section
variable {M : Md} {F H F' H' : Hp} {N : List Str} {vs : List V} {args as : List Val} {pn : List Nat} {n : Nat} {σ' : St} {env' : En}
theorem Rel.begin (R : Rel M (ctN H) F H (sV vs) (eV args)) (hf : ArgsFit pn n args) (hn : n ≤ N.length) : Rel M ⟨pn, start N vs, H, fun _ _ _ => False, H⟩ F H (start N vs) (startE N.length args) := by
  have hl : vs.length = args.length := by
    have := R.len
    unfold eV sV at this
    simpa using this.symm
  refine ⟨R.sub, ?_, fun i d h => ?_, fun i o h => ?_, fun i a C ks ds h => ?_, fun i j o u p h1 h2 h3 h4 => ?_, fun _ _ => rfl, fun b u h => ⟨u, h⟩, fun i o p h hn' _ => ?_, fun i o b h hb => have z := (R.frN i o b (eV_get.mpr (startE_get.mp h)) hb).1; ⟨z, z⟩, fun b u h => ⟨u, h⟩⟩
  · unfold startE L2.start
    simp only [List.length_append, List.length_map, List.length_replicate, hl]
  · obtain ⟨v, h1, h2⟩ := R.fz i d (eV_get.mpr (startE_get.mp h))
    exact ⟨v, start_get.mpr (sV_get.mp h1), h2⟩
  · obtain ⟨p, h1, h2⟩ := R.ow i o (eV_get.mpr (startE_get.mp h))
    exact ⟨p, start_get.mpr (sV_get.mp h1), h2⟩
  · exact absurd (startE_get.mp h) (hf.ex i a C ks ds)
  · exact R.sep i j o u p (eV_get.mpr (startE_get.mp h1)) (eV_get.mpr (startE_get.mp h2)) (h3.imp fun p z => ⟨sV_get.mpr (start_get.mp z.1), z.2⟩) (h4.imp fun p z => ⟨sV_get.mpr (start_get.mp z.1), z.2⟩)
  · exact absurd (hf.ow i o (startE_get.mp h)) hn'
theorem own_begin : ∀ b, Own (start N vs) (startE n args) b ↔ Own (sV vs) (eV args) b := fun b =>
  ⟨fun ⟨i, o, h1, h2⟩ => ⟨i, o, eV_get.mpr (startE_get.mp h1), h2.imp fun p z => ⟨sV_get.mpr (start_get.mp z.1), z.2⟩⟩, fun ⟨i, o, h1, h2⟩ => ⟨i, o, startE_get.mpr (eV_get.mp h1), h2.imp fun p z => ⟨start_get.mpr (sV_get.mp z.1), z.2⟩⟩⟩
/-- at the def's end -/
theorem Rel.finish (R : Rel M (ctN H) F H (sV vs) (eV args)) (hf : ArgsFit pn n args) (R' : Rel M ⟨pn, start N vs, H, fun _ _ _ => False, H⟩ F' H' σ' env') (ev : Evo (Own (start N vs) (startE N.length args)) (Own σ' env') F H F' H') (e : finA pn env' 0 args = some as) :
    Rel M (ctN H) F' H' (sV vs) (eV as) ∧ Evo (Own (sV vs) (eV args)) (Own (sV vs) (eV as)) F H F' H' ∧ ∀ b, Own (sV vs) (eV as) b → Own σ' env' b := by
  have hl : vs.length = args.length := by
    have := R.len
    unfold eV sV at this
    simpa using this.symm
  -- a final argument: pinned, or as it was
  have at_ : ∀ {k : Nat} {a : Val}, as[k]? = some a → (k ∈ pn ∧ env'[k]? = some (some a) ∧ ∃ v, vs[k]? = some v ∧ σ'[k]? = some (some v)) ∨ (k ∉ pn ∧ args[k]? = some a) := fun {k a} h => by
    obtain ⟨b, h1, h2⟩ := finA_get e h
    rw [Nat.zero_add] at h2
    rcases h2 with ⟨h2, h3⟩ | ⟨h2, h3⟩
    · have hk : k < vs.length := by rw [hl]; exact (List.getElem?_eq_some_iff.mp h1).1
      refine .inl ⟨h2, h3, vs[k], List.getElem?_eq_getElem hk, ?_⟩
      rw [R'.pin k h2]
      exact start_get.mpr (List.getElem?_eq_getElem hk)
    · exact .inr ⟨h2, by rw [h3]; exact h1⟩
  have owOf : ∀ {k : Nat} {o : O}, as[k]? = some (.ow o) → env'[k]? = some (some (.ow o)) ∧ ∃ v, vs[k]? = some v ∧ σ'[k]? = some (some v) := fun {k o} h => by
    rcases at_ h with ⟨_, h1, h2⟩ | ⟨h1, h2⟩
    · exact ⟨h1, h2⟩
    · exact absurd (hf.ow k o h2) h1
  have ownSub : ∀ b, Own (sV vs) (eV as) b → Own σ' env' b := fun b ⟨k, o, h1, p, h2, h6⟩ => by
    obtain ⟨h3, v, h4, h5⟩ := owOf (eV_get.mp h1)
    rw [sV_get.mp h2] at h4; cases h4
    exact ⟨k, o, h3, p, h5, h6⟩
  refine ⟨⟨R'.sub, ?_, fun k d h => ?_, fun k o h => ?_, fun k a C ks ds h => ?_, fun i j o u p h1 h2 h3 h4 => ?_, fun _ h => (nomatch h), fun _ _ h => (nomatch h), fun _ _ _ _ _ _ => rfl, fun k o b h hb => ⟨(R'.frN k o b (owOf (eV_get.mp h)).1 hb).1, rfl⟩, R'.oldN⟩, ⟨ev.fs, fun b o h => ?_, fun b o h hn => ?_, ev.ht, fun b h => ?_⟩, ownSub⟩
  · unfold eV sV
    rw [List.length_map, List.length_map, finA_len e, hl]
  · rcases at_ (eV_get.mp h) with ⟨_, h1, v, h2, h3⟩ | ⟨_, h1⟩
    · obtain ⟨v', h4, h5⟩ := R'.fz k d h1
      rw [h3] at h4; cases h4
      exact ⟨v, sV_get.mpr h2, h5⟩
    · obtain ⟨v, h2, h3⟩ := R.fz k d (eV_get.mpr h1)
      exact ⟨v, h2, h3.same ev.fs⟩
  · obtain ⟨h1, v, h2, h3⟩ := owOf (eV_get.mp h)
    obtain ⟨p, h4, h5, h6⟩ := R'.ow k o h1
    rw [h3] at h4; cases h4
    exact ⟨p, sV_get.mpr h2, h5, h6⟩
  · rcases at_ (eV_get.mp h) with ⟨_, h1, v, h2, h3⟩ | ⟨_, h1⟩
    · obtain ⟨_, _, _, z, _⟩ := R'.ex k a C ks ds h1
      exact z.elim
    · exact absurd h1 (hf.ex k a C ks ds)
  · obtain ⟨a1, v, a2, a3⟩ := owOf (eV_get.mp h1)
    obtain ⟨b1, v', b2, b3⟩ := owOf (eV_get.mp h2)
    obtain ⟨p1, h3, h5⟩ := h3
    obtain ⟨p2, h4, h6⟩ := h4
    rw [sV_get.mp h3] at a2; cases a2
    rw [sV_get.mp h4] at b2; cases b2
    exact R'.sep i j o u p a1 b1 ⟨p1, a3, h5⟩ ⟨p2, b3, h6⟩
  · rcases ev.fn b o h with z | z | z
    · exact .inl z
    · exact .inr (.inl z)
    · exact .inr (.inr ((own_begin b).mp z))
  · exact ev.hk b o h fun z => hn ((own_begin b).mp z)
  · rcases ev.aa b (ownSub b h) with z | z
    · exact .inl ((own_begin b).mp z)
    · exact .inr z
end
section
variable {P : Program} {w : World} {K : PySem.W.Frag} {mg : Str → Option Value} {base : Heap}
/-- what a spec must show of a body -/
structure Keeps (S : FSpec) (pn : List Nat) (np nl : Nat) (b : SW) : Prop where
  fit : ∀ args Q E, S args Q E → ArgsFit pn np args
  run : ∀ args Q E, S args Q E → b (KsFn pn args Q E) (startE nl args)
end
end LV
set_option maxHeartbeats 4000000
set_option maxHeartbeats 1000000
namespace LV
open PySem PySem.Spec L2
def spX1 (C : Addr) (f : Str) : Sp := fun vs H Q _ => ∃ (a : Addr) (v : V), vs = [.ref a, v] ∧ H a = some (exo a C none) ∧ ∀ d, H d = none → d ≠ a → Q .non (upd (upd H d (exd d [(f, v)])) a (exo a C (some d)))
/-- the class named Cn, its field f -/
structure XC (P : Program) (w : World) (K : PySem.W.Frag) (mg : Str → Option Value) (base : Heap) (Cn f : Str) : Prop where
  ex : ∃ (C fI : Addr) (fd : FuncData) (p : Str), mg Cn = some (.ref C) ∧ OexC K C ∧ PySem.W.findIn K (.ref C) "__init__" = some (some (.ref fI)) ∧ PySem.W.typeIn K (.ref fI) = some (.type "function") ∧
    FnOk P w K mg base (L2.CX P w) 1 fI fd ["self", p] (spX1 C f) ∧ Binds K fd ["self", p] []
section
variable {X : Cx} {c : Ct} {W : WX} {e : Expr} {es : List Expr} {wl : AW} {pos pos' p : Pos} {Cn f : Str} {body suite : List Stmt} {wb : SW}
/-- raise Cn(e) -/
def wRaise1 (Cn f : Str) (wl : AW) : SW := fun K env => wl env (fun rs e => ∃ d e2, frzL e rs = some ([d], e2) ∧ K.ex ⟨Cn, [f], [d]⟩ e2) K.ex
def noEx : En → Bool
  | [] => true
  | some (.ex _ _ _ _) :: _ => false
  | _ :: r => noEx r
/-- the ends of an except suite: the name goes -/
def KsSu (i : Nat) (K : Ks) : Ks where
  nx := fun e => noEx (e.set i none) = true ∧ K.nx (e.set i none)
  rt := fun r e => noEx (e.set i none) = true ∧ K.rt r (e.set i none)
  bk := fun e => noEx (e.set i none) = true ∧ K.bk (e.set i none)
  ct := fun e => noEx (e.set i none) = true ∧ K.ct (e.set i none)
  ex := fun _ _ => False
/-- what the rule needs of the classes that may fly -/
def Catches (K : PySem.W.Frag) (mg : Str → Option Value) (cv : Value) (catch_ : Str → Option Bool) : Prop := ∀ Cn b C, catch_ Cn = some b → mg Cn = some (.ref C) → PySem.W.exmOne K (.ref C) cv = some b
end
end LV
namespace LV
open PySem PySem.Spec L2
mutual
def D.pd : D → PyData
  | .non => .none
  | .bl b => .bool b
  | .int i => .int i
  | .str x => .str x
  | .tup ds => .tuple (pdL ds)
  | .lst ds => .list (pdL ds)
  | .scr ns => .list (ns.map PyData.int)
  | .dct _ _ => .dict []
  | .ins _ _ _ => .dict []
  | .cls _ => .dict []
  | .ptr _ => .dict []
  | .tpn _ => .dict []
  | .exn _ _ _ => .dict []
def pdL : List D → List PyData
  | [] => []
  | d :: ds => d.pd :: pdL ds
end
mutual
/-- plain data: no dict, no instance -/
def D.plain : D → Bool
  | .tup ds => plainL ds
  | .lst ds => plainL ds
  | .dct _ _ => false
  | .ins _ _ _ => false
  | .cls _ => false
  | .ptr _ => false
  | .tpn _ => false
  | .exn _ _ _ => false
  | _ => true
def plainL : List D → Bool
  | [] => true
  | d :: ds => d.plain && plainL ds
end
theorem dp_ints {M : Md} {H : Hp} : ∀ ns : List Int, DpAll M.K H (ns.map V.int) (ns.map PyData.int)
  | [] => .nil
  | n :: ns => .cons (.int n) (dp_ints ns)
section
variable {M : Md} {F H : Hp}
mutual
theorem Rep.dp (s : Same F H) : ∀ {v : V} {d : D}, Rep M F v d → d.plain = true → Dp M.K H v d.pd
  | _, _, .non, _ => .non
  | _, _, .bl b, _ => .bl b
  | _, _, .int i, _ => .int i
  | _, _, .str x, _ => .str x
  | _, _, .tup h r, p => .tup (Same.sqT s h) (RepL.dp s r p)
  | _, _, .lst h r, p => .lst (.inl (.inl (s _ _ h))) (RepL.dp s r p)
  | _, .scr ns, .scr h, _ => .lst (s.seq h) (dp_ints ns)
  | _, _, .dK h e r, p => nomatch p
  | _, _, .ins g h e r, p => nomatch p
  | _, _, .cls g, p => nomatch p
  | _, _, .ptr, p => nomatch p
  | _, _, .tpn _ _ _, p => nomatch p
  | _, _, .exn _ _ _ _ _, p => nomatch p
  | _, _, .ex0 _ _, p => nomatch p
theorem RepL.dp (s : Same F H) : ∀ {vs : List V} {ds : List D}, RepL M F vs ds → plainL ds = true → DpAll M.K H vs (pdL ds)
  | _, _, .nil, _ => .nil
  | _, _, .cons h r, p => .cons (Rep.dp s h (Bool.and_eq_true_iff.mp p).1) (RepL.dp s r (Bool.and_eq_true_iff.mp p).2)
end
theorem Vw.dp (s : Same F H) {v : V} {d : D} (h : Vw M F H v d) (p : d.plain = true) : Dp M.K H v d.pd := by
  cases d with
  | non => cases h; exact .non
  | bl b => cases h; exact .bl b
  | int i => cases h; exact .int i
  | str x => cases h; exact .str x
  | tup ds => obtain ⟨a, xs, rfl, h1, h2⟩ := h; exact .tup (Same.sqT (Same.refl _) h1 |> fun z => Same.sqT s z) (RepL.dp s h2 p)
  | lst ds => obtain ⟨a, xs, rfl, h1, h2⟩ := h; exact .lst (.inl (.inl h1)) (RepL.dp s h2 p)
  | scr ns => obtain ⟨a, rfl, h1⟩ := h; exact .lst h1 (dp_ints ns)
  | dct _ _ => cases p
  | ins _ _ _ => cases p
  | cls _ => cases p
  | ptr _ => cases p
  | tpn _ => cases p
  | exn _ _ _ => cases p
end
/-- what == asks of its sides -/
def D.okE (d : D) : Bool := d.plain && SeqAt.shaped d.pd
def eqvD (a b : D) : Bool := PyData.eqv a.pd b.pd
def gEq : G2 := fun a b Q => a.okE = true ∧ b.okE = true ∧ Q (.fz (.bl (eqvD a b)))
def gNe : G2 := fun a b Q => a.okE = true ∧ b.okE = true ∧ Q (.fz (.bl (!eqvD a b)))
theorem D.okE_plain {d : D} (h : d.okE = true) : d.plain = true := (Bool.and_eq_true_iff.mp h).1
theorem D.okE_shaped {d : D} (h : d.okE = true) : SeqAt.shaped d.pd = true := (Bool.and_eq_true_iff.mp h).2
section
variable {X : Cx}
theorem VR2.of {f : Value → Value → Sem Value} {g : G2} {r : R2} (ho : OpR X f r) (m : Mono2 g)
    (h : ∀ F da db x y H Qv, Same F H → Vw (mdX X) F H x da → Vw (mdX X) F H y db → g da db (NPost (mdX X) F H Qv) → r x y H Qv) : VR2 X f g :=
  ⟨fun pins s σ H x y v u Q I rx ry ⟨F, da, db, sm, vx, vy, q⟩ => ho pins s σ H x y v u Q I rx ry (h F da db x y H Q sm vx vy q), m⟩
theorem vr_eq (hu : X.A.units + 64 < cLine) : VR2 X (compareOp .Eq) gEq :=
  .of (op_eqD hu) ⟨fun h ⟨a, b, q⟩ => ⟨a, b, h _ q⟩⟩ fun F da db x y H Qv sm vx vy ⟨h1, h2, q⟩ => ⟨_, _, Vw.dp sm vx (D.okE_plain h1), Vw.dp sm vy (D.okE_plain h2), D.okE_shaped h1, D.okE_shaped h2, q.here sm (.bl _)⟩
theorem vr_ne (hu : X.A.units + 64 < cLine) : VR2 X (compareOp .NotEq) gNe :=
  .of (op_neD hu) ⟨fun h ⟨a, b, q⟩ => ⟨a, b, h _ q⟩⟩ fun F da db x y H Qv sm vx vy ⟨h1, h2, q⟩ => ⟨_, _, Vw.dp sm vx (D.okE_plain h1), Vw.dp sm vy (D.okE_plain h2), D.okE_shaped h1, D.okE_shaped h2, q.here sm (.bl _)⟩
def inD (x : D) : D → Option Bool
  | .tup ds => some ((pdL ds).any fun z => PyData.eqv z x.pd)
  | .lst ds => some ((pdL ds).any fun z => PyData.eqv z x.pd)
  | .scr ns => some ((ns.map PyData.int).any fun z => PyData.eqv z x.pd)
  | _ => none
def gIn : G2 := fun a b Q => a.okE = true ∧ b.okE = true ∧ ∃ k, inD a b = some k ∧ Q (.fz (.bl k))
def gNotIn : G2 := fun a b Q => a.okE = true ∧ b.okE = true ∧ ∃ k, inD a b = some k ∧ Q (.fz (.bl (!k)))
def rInA (K : PySem.W.Frag) (neg : Bool) : R2 := fun x y H Q => ∃ d e ds, Dp K H x d ∧ Dp K H y e ∧ (e = .list ds ∨ e = .tuple ds) ∧ SeqAt.shaped d = true ∧ SeqAt.shaped e = true ∧ Q (.bl (if neg then !(ds.any fun z => PyData.eqv z d) else ds.any fun z => PyData.eqv z d)) H
theorem op_notInA (hu : X.A.units + 65 < cLine) : OpR X (compareOp .NotIn) (rInA X.K true) := by
  intro pins s σ H x y v u Q I rx ry h
  obtain ⟨d, e, ds, hd, he, hk, sd, se, q⟩ := h
  obtain ⟨as, r1⟩ := Dp.reads I d x v hd rx
  rcases hk with rfl | rfl
  · obtain ⟨bs, r2⟩ := Dp.reads I (.list ds) y u he ry
    exact SeqAt.notIn_list_reads r2 r1 (SeqAt.canLay_of_shaped se) (SeqAt.canLay_of_shaped sd) (PyProof.Rows.room_in_shaped sd hu) ⟨.bl _, H, I, rfl, q⟩
  · obtain ⟨bs, r2⟩ := Dp.reads I (.tuple ds) y u he ry
    exact SeqAt.notIn_tuple_reads r2 r1 (SeqAt.canLay_of_shaped se) (SeqAt.canLay_of_shaped sd) (PyProof.Rows.room_in_shaped sd hu) ⟨.bl _, H, I, rfl, q⟩
theorem inD_pd {x e : D} {k : Bool} (h : inD x e = some k) : ∃ ds, (e.pd = .list ds ∨ e.pd = .tuple ds) ∧ k = ds.any fun z => PyData.eqv z x.pd := by
  cases e with
  | tup ds => cases h; exact ⟨_, .inr rfl, rfl⟩
  | lst ds => cases h; exact ⟨_, .inl rfl, rfl⟩
  | scr ns => cases h; exact ⟨_, .inl rfl, rfl⟩
  | _ => cases h
theorem vr_notIn (hu : X.A.units + 65 < cLine) : VR2 X (compareOp .NotIn) gNotIn :=
  .of (op_notInA hu) ⟨fun h ⟨a, b, k, e, q⟩ => ⟨a, b, k, e, h _ q⟩⟩ fun F da db x y H Qv sm vx vy ⟨h1, h2, k, e, q⟩ => by
    obtain ⟨ds, e1, e2⟩ := inD_pd e
    exact ⟨_, _, ds, Vw.dp sm vx (D.okE_plain h1), Vw.dp sm vy (D.okE_plain h2), e1, D.okE_shaped h1, D.okE_shaped h2, by rw [if_pos rfl, ← e2]; exact q.here sm (.bl _)⟩
def isN : D → Bool
  | .non => true
  | _ => false
def gIsN : G2 := fun a b Q => b = .non ∧ Q (.fz (.bl (isN a)))
def gIsNotN : G2 := fun a b Q => b = .non ∧ Q (.fz (.bl (!isN a)))
theorem isN_vw {M : Md} {F H : Hp} {v : V} {d : D} (h : Vw M F H v d) : decide (v = .non) = isN d := by
  cases d with
  | non => cases h; rfl
  | bl b => cases h; rfl
  | int b => cases h; rfl
  | str b => cases h; rfl
  | tup ds => obtain ⟨a, xs, rfl, _⟩ := h; rfl
  | lst ds => obtain ⟨a, xs, rfl, _⟩ := h; rfl
  | scr ds => obtain ⟨a, rfl, _⟩ := h; rfl
  | dct ks ds => obtain ⟨a, rfl, _⟩ := h; rfl
  | ins C ks ds => obtain ⟨a, rfl, _⟩ := h; rfl
  | cls C => obtain ⟨a, rfl, _⟩ := h; rfl
  | ptr a => cases (show v = .ref a from h); rfl
  | tpn C => obtain ⟨a, o, xs, rfl, _⟩ := h; rfl
  | exn C ks ds => obtain ⟨a, c, rfl, _⟩ := h; rfl
theorem vr_isNotN : VR2 X (compareOp .IsNot) gIsNotN :=
  .of op_notN ⟨fun h ⟨a, q⟩ => ⟨a, h _ q⟩⟩ fun F da db x y H Qv sm vx vy ⟨h1, q⟩ => by
    subst h1; exact ⟨vy, by rw [isN_vw vx]; exact q.here sm (.bl _)⟩
end
end LV
namespace LV
open PySem PySem.Spec L2
def ltI : List Int → List Int → Bool
  | [], [] => false
  | [], _ :: _ => true
  | _ :: _, [] => false
  | x :: xs, y :: ys => if x = y then ltI xs ys else decide (x < y)
def leI : List Int → List Int → Bool
  | [], _ => true
  | _ :: _, [] => false
  | x :: xs, y :: ys => if x = y then leI xs ys else decide (x ≤ y)
theorem lexAt_shift {e r e' r' : Nat → Bool} {z : Bool} : ∀ (k i : Nat), (∀ j, e (i + 1 + j) = e' (i + j)) → (∀ j, r (i + 1 + j) = r' (i + j)) → Ob.lexAt e r z (i + 1) k = Ob.lexAt e' r' z i k
  | 0, i, _, _ => rfl
  | k + 1, i, h1, h2 => by
    rw [Ob.lexAt_succ, Ob.lexAt_succ]
    have a1 := h1 0
    have a2 := h2 0
    simp only [Nat.add_zero] at a1 a2
    rw [a1, a2, lexAt_shift k (i + 1) (fun j => by have := h1 (j + 1); rwa [show i + 1 + (j + 1) = i + 1 + 1 + j by omega, show i + (j + 1) = i + 1 + j by omega] at this)
      (fun j => by have := h2 (j + 1); rwa [show i + 1 + (j + 1) = i + 1 + 1 + j by omega, show i + (j + 1) = i + 1 + j by omega] at this)]
theorem lexAt_lt : ∀ ns ms : List Int, Ob.lexAt (fun j => decide (ns.getD j 0 = ms.getD j 0)) (fun j => decide (ns.getD j 0 < ms.getD j 0)) (decide (ns.length < ms.length)) 0 (min ns.length ms.length) = ltI ns ms
  | [], [] => rfl
  | [], _ :: _ => by simp [Ob.lexAt, ltI]
  | _ :: _, [] => by simp [Ob.lexAt, ltI]
  | n :: ns, m :: ms => by
    rw [List.length_cons, List.length_cons, show min (ns.length + 1) (ms.length + 1) = min ns.length ms.length + 1 by omega, Ob.lexAt_succ, show ltI (n :: ns) (m :: ms) = if n = m then ltI ns ms else decide (n < m) from rfl]
    simp only [List.getD_cons_zero]
    by_cases h : n = m
    · rw [if_pos h, if_pos (decide_eq_true h), show decide (ns.length + 1 < ms.length + 1) = decide (ns.length < ms.length) from by simp, ← lexAt_lt ns ms]
      exact lexAt_shift _ 0 (fun j => by rw [show 0 + 1 + j = (0 + j) + 1 by omega]; simp) (fun j => by rw [show 0 + 1 + j = (0 + j) + 1 by omega]; simp)
    · rw [if_neg h, if_neg (by simpa using h)]
theorem lexAt_le : ∀ ns ms : List Int, Ob.lexAt (fun j => decide (ns.getD j 0 = ms.getD j 0)) (fun j => decide (ns.getD j 0 ≤ ms.getD j 0)) (decide (ns.length ≤ ms.length)) 0 (min ns.length ms.length) = leI ns ms
  | [], [] => rfl
  | [], _ :: _ => by simp [Ob.lexAt, leI]
  | _ :: _, [] => by simp [Ob.lexAt, leI]
  | n :: ns, m :: ms => by
    rw [List.length_cons, List.length_cons, show min (ns.length + 1) (ms.length + 1) = min ns.length ms.length + 1 by omega, Ob.lexAt_succ, show leI (n :: ns) (m :: ms) = if n = m then leI ns ms else decide (n ≤ m) from rfl]
    simp only [List.getD_cons_zero]
    by_cases h : n = m
    · rw [if_pos h, if_pos (decide_eq_true h), show decide (ns.length + 1 ≤ ms.length + 1) = decide (ns.length ≤ ms.length) from by simp, ← lexAt_le ns ms]
      exact lexAt_shift _ 0 (fun j => by rw [show 0 + 1 + j = (0 + j) + 1 by omega]; simp) (fun j => by rw [show 0 + 1 + j = (0 + j) + 1 by omega]; simp)
    · rw [if_neg h, if_neg (by simpa using h)]
section
variable {X : Cx}
/-- one order operator on tuples of ints -/
def rOrd (K : PySem.W.Frag) (f : List Int → List Int → Bool) : R2 := fun x y H Q => ∃ (a b : Addr) (ns ms : List Int), x = .ref a ∧ y = .ref b ∧ SqT K H a (ns.map V.int) ∧ SqT K H b (ms.map V.int) ∧ Q (.bl (f ns ms)) H
theorem op_ordT {op : CmpOp} {r : Int → Int → Bool} {z : Nat → Nat → Bool} {f : List Int → List Int → Bool}
    (rule : ∀ {s : Shared} {l b : Addr} {items items2 : Array Value} {e r : Nat → Bool}, s.heap.IsTuple l items → s.heap.IsTuple b items2 → X.A.units < cLine →
      (∀ j (h1 : j < items.size) (h2 : j < items2.size), SeqAt.EqAt X.A.in1 s items[j] items2[j] (e j)) → (∀ j (h1 : j < items.size) (h2 : j < items2.size), e j = false → Ob.RcOp op X.A.in1 s items[j] items2[j] (r j)) →
      Ob.RcOp op X.A s (.ref l) (.ref b) (Ob.lexAt e r (z items.size items2.size) 0 (min items.size items2.size)))
    (base : ∀ (A : Around) (s : Shared) (a b : Int) (t u : Tok), Ob.RcOp op A s (.int a t) (.int b u) (r a b))
    (hf : ∀ ns ms : List Int, Ob.lexAt (fun j => decide (ns.getD j 0 = ms.getD j 0)) (fun j => r (ns.getD j 0) (ms.getD j 0)) (z ns.length ms.length) 0 (min ns.length ms.length) = f ns ms)
    (hr : ∀ (a b : Value) (s : Shared) (Q E : Value → Shared → Prop), wpAny (model X.prog X.w) X.A (richCompare op a b) Q E s → wpAny (model X.prog X.w) X.A (compareOp op a b) Q E s)
    (hu : X.A.units < cLine) : OpR X (compareOp op) (rOrd X.K f) := by
  intro pins s σ H x y v u Q I rx ry h
  obtain ⟨a, b, ns, ms, rfl, rfl, ha, hb, q⟩ := h
  cases rx
  cases ry
  obtain ⟨its, r1, p1, _⟩ := I.tuple ha
  obtain ⟨its2, r2, p2, _⟩ := I.tuple hb
  have i1 : PyProof.Rows.IntsAre its ns := Vals.ints r1
  have i2 : PyProof.Rows.IntsAre its2 ms := Vals.ints r2
  have e1 : its.toArray.size = ns.length := by rw [List.size_toArray]; exact i1.length
  have e2 : its2.toArray.size = ms.length := by rw [List.size_toArray]; exact i2.length
  have at1 : ∀ j (h1 : j < its.toArray.size), ∃ t, its.toArray[j] = .int (ns.getD j 0) t := fun j h1 => PyProof.Rows.IntsAre.int_at i1 _ _ (by simp at h1; simp [h1])
  have at2 : ∀ j (h1 : j < its2.toArray.size), ∃ t, its2.toArray[j] = .int (ms.getD j 0) t := fun j h1 => PyProof.Rows.IntsAre.int_at i2 _ _ (by simp at h1; simp [h1])
  have R := rule (s := s) (e := fun j => decide (ns.getD j 0 = ms.getD j 0)) (r := fun j => r (ns.getD j 0) (ms.getD j 0)) p1 p2 hu (fun j h1 h2 => by
    obtain ⟨t, et⟩ := at1 j h1
    obtain ⟨t', et'⟩ := at2 j h2
    rw [et, et']
    have z : (ns.getD j 0 == ms.getD j 0) = decide (ns.getD j 0 = ms.getD j 0) := by
      by_cases q : ns.getD j 0 = ms.getD j 0
      · rw [decide_eq_true q]; exact beq_iff_eq.mpr q
      · rw [decide_eq_false q]; exact beq_eq_false_iff_ne.mpr q
    rw [← z]
    exact SeqAt.EqAt.int_int _ _ _ _) (fun j h1 h2 _ => by
    obtain ⟨t, et⟩ := at1 j h1
    obtain ⟨t', et'⟩ := at2 j h2
    rw [et, et']
    exact base _ _ _ _ _ _)
  rw [e1, e2, hf] at R
  exact hr _ _ _ _ _ (R X.prog X.w X.xe (EP X pins σ Q) ⟨.bl _, H, I, rfl, q⟩)
theorem op_ltT' (hu : X.A.units < cLine) : OpR X (compareOp .Lt) (rOrd X.K ltI) :=
  op_ordT (z := fun a b => decide (a < b)) (fun h1 h2 h3 h4 h5 => Ob.RcOp.tuples_lt h1 h2 h3 h4 h5) (fun _ _ => Ob.RcOp.lt_int) lexAt_lt (fun _ _ _ _ _ h => h) hu
theorem op_leT' (hu : X.A.units < cLine) : OpR X (compareOp .LtE) (rOrd X.K leI) :=
  op_ordT (z := fun a b => decide (a ≤ b)) (fun h1 h2 h3 h4 h5 => Ob.RcOp.tuples_le h1 h2 h3 h4 h5) (fun _ _ => Ob.RcOp.le_int) lexAt_le (fun _ _ _ _ _ h => h) hu
theorem lexAt_gt (ns ms : List Int) : Ob.lexAt (fun j => decide (ns.getD j 0 = ms.getD j 0)) (fun j => decide (ms.getD j 0 < ns.getD j 0)) (decide (ns.length > ms.length)) 0 (min ns.length ms.length) = ltI ms ns := by
  rw [← lexAt_lt ms ns, Nat.min_comm]
  congr 1
  funext j
  exact decide_eq_decide.mpr eq_comm
theorem lexAt_ge (ns ms : List Int) : Ob.lexAt (fun j => decide (ns.getD j 0 = ms.getD j 0)) (fun j => decide (ms.getD j 0 ≤ ns.getD j 0)) (decide (ns.length ≥ ms.length)) 0 (min ns.length ms.length) = leI ms ns := by
  rw [← lexAt_le ms ns, Nat.min_comm]
  congr 1
  funext j
  exact decide_eq_decide.mpr eq_comm
theorem op_gtT' (hu : X.A.units < cLine) : OpR X (compareOp .Gt) (rOrd X.K fun a b => ltI b a) :=
  op_ordT (z := fun a b => decide (a > b)) (fun h1 h2 h3 h4 h5 => Ob.RcOp.tuples_gt h1 h2 h3 h4 h5) (fun _ _ => Ob.RcOp.gt_int) lexAt_gt (fun _ _ _ _ _ h => h) hu
theorem op_geT' (hu : X.A.units < cLine) : OpR X (compareOp .GtE) (rOrd X.K fun a b => leI b a) :=
  op_ordT (z := fun a b => decide (a ≥ b)) (fun h1 h2 h3 h4 h5 => Ob.RcOp.tuples_ge h1 h2 h3 h4 h5) (fun _ _ => Ob.RcOp.ge_int) lexAt_ge (fun _ _ _ _ _ h => h) hu
/-- an order operator: ints by p, tuples of ints by f -/
def gOrd (p : Int → Int → Bool) (f : List Int → List Int → Bool) : G2 := fun a b Q =>
  (∃ i j, a = .int i ∧ b = .int j ∧ Q (.fz (.bl (p i j)))) ∨ (∃ ns ms, a = .tup (ns.map D.int) ∧ b = .tup (ms.map D.int) ∧ Q (.fz (.bl (f ns ms))))
theorem Vw.tupI {M : Md} {F H : Hp} {v : V} {ns : List Int} (sm : Same F H) (h : Vw M F H v (.tup (ns.map D.int))) : ∃ a, v = .ref a ∧ SqT M.K H a (ns.map V.int) := by
  obtain ⟨a, xs, rfl, h1, h2⟩ := h
  rw [RepL.ints h2] at h1
  exact ⟨a, rfl, Same.sqT sm h1⟩
theorem Mono2.ord {p : Int → Int → Bool} {f : List Int → List Int → Bool} : Mono2 (gOrd p f) :=
  ⟨fun h q => q.elim (fun ⟨i, j, a, b, q⟩ => .inl ⟨i, j, a, b, h _ q⟩) (fun ⟨i, j, a, b, q⟩ => .inr ⟨i, j, a, b, h _ q⟩)⟩
theorem orR {f : Value → Value → Sem Value} {r r' : R2} (h : OpR X f r) (h' : OpR X f r') : OpR X f (fun x y H Q => r x y H Q ∨ r' x y H Q) := by
  intro pins s σ H x y v u Q I rx ry q
  rcases q with q | q
  · exact h pins s σ H x y v u Q I rx ry q
  · exact h' pins s σ H x y v u Q I rx ry q
theorem vr_ord {op : CmpOp} {p : Int → Int → Bool} {f : List Int → List Int → Bool} (h1 : OpR X (compareOp op) (rI0 fun i j => .bl (p i j))) (h2 : OpR X (compareOp op) (rOrd X.K f)) : VR2 X (compareOp op) (gOrd p f) :=
  .of (orR h1 h2) .ord fun F da db x y H Qv sm vx vy q => by
    rcases q with ⟨i, j, rfl, rfl, q⟩ | ⟨ns, ms, rfl, rfl, q⟩
    · exact .inl ⟨i, j, vx, vy, q.here sm (.bl _)⟩
    · obtain ⟨a, rfl, ha⟩ := Vw.tupI sm vx
      obtain ⟨b, rfl, hb⟩ := Vw.tupI sm vy
      exact .inr ⟨a, b, ns, ms, rfl, rfl, ha, hb, q.here sm (.bl _)⟩
def gLt : G2 := gOrd (fun i j => decide (i < j)) ltI
def gLe : G2 := gOrd (fun i j => decide (i ≤ j)) leI
def gGt : G2 := gOrd (fun i j => decide (j < i)) (fun a b => ltI b a)
def gGe : G2 := gOrd (fun i j => decide (j ≤ i)) (fun a b => leI b a)
theorem vr_lt (hu : X.A.units < cLine) : VR2 X (compareOp .Lt) gLt := vr_ord op_lt (op_ltT' hu)
theorem vr_le (hu : X.A.units < cLine) : VR2 X (compareOp .LtE) gLe := vr_ord op_le (op_leT' hu)
theorem vr_gt (hu : X.A.units < cLine) : VR2 X (compareOp .Gt) gGt := vr_ord op_gt (op_gtT' hu)
theorem vr_ge (hu : X.A.units < cLine) : VR2 X (compareOp .GtE) gGe := vr_ord op_ge (op_geT' hu)
def gAdd : G2 := fun a b Q => match a, b with
  | .int i, .int j => Q (.fz (.int (i + j)))
  | .str x, .str y => x.length + y.length ≤ sizeLine ∧ Q (.fz (.str (x ++ y)))
  | .tup xs, .tup ys => xs.length + ys.length ≤ sizeLine ∧ Q (.fz (.tup (xs ++ ys)))
  | .lst xs, .lst ys => xs.length + ys.length ≤ sizeLine ∧ Q (.ow (.lst (xs ++ ys)))
  | _, _ => False
theorem Mono2.add : Mono2 gAdd := ⟨fun {a b Q Q'} h q => by
  unfold gAdd at q ⊢
  split at q <;> first | exact h _ q | exact ⟨q.1, h _ q.2⟩ | exact q⟩
theorem vr_add : VR2 X (binaryOp .Add) gAdd :=
  .of (orR (orR op_add op_add_str) (orR op_catA op_cat)) .add fun F da db x y H Qv sm vx vy q => by
    unfold gAdd at q
    split at q
    · cases vx; cases vy; exact .inl (.inl ⟨_, _, rfl, rfl, q.here sm (.int _)⟩)
    · cases vx; cases vy; exact .inl (.inr ⟨_, _, rfl, rfl, q.1, q.2.here sm (.str _)⟩)
    · obtain ⟨a, xs, rfl, h1, h2⟩ := vx
      obtain ⟨b, ys, rfl, h3, h4⟩ := vy
      refine .inr (.inl ⟨a, b, xs, ys, rfl, rfl, Same.sqT sm h1, Same.sqT sm h3, by rw [h2.length, h4.length]; exact q.1, fun e => ?_, fun _ e => ?_, fun _ _ p hp => q.2.newT sm (h2.append h4) hp⟩)
      · subst e; cases h2; exact q.2.here sm (.tup h3 h4)
      · subst e; cases h4; rw [List.append_nil] at q; exact q.2.here sm (.tup h1 h2)
    · obtain ⟨a, xs, rfl, h1, h2⟩ := vx
      obtain ⟨b, ys, rfl, h3, h4⟩ := vy
      exact .inr (.inr ⟨a, b, xs, ys, rfl, rfl, h1, h3, by rw [h2.length, h4.length]; exact q.1, fun p hp => q.2.newL sm (h2.append h4) hp⟩)
    · exact q.elim
def gInt (C : Int → Int → Prop) (g : Int → Int → Int) : G2 := fun a b Q => ∃ i j, a = .int i ∧ b = .int j ∧ C i j ∧ Q (.fz (.int (g i j)))
theorem Mono2.int {C : Int → Int → Prop} {g : Int → Int → Int} : Mono2 (gInt C g) := ⟨fun h ⟨i, j, a, b, c, q⟩ => ⟨i, j, a, b, c, h _ q⟩⟩
theorem vr_int {f : Value → Value → Sem Value} {C : Int → Int → Prop} {g : Int → Int → Int} (h : OpR X f (rI C fun i j => .int (g i j))) : VR2 X f (gInt C g) :=
  .of h .int fun F da db x y H Qv sm vx vy ⟨i, j, e1, e2, hc, q⟩ => by subst e1 e2; exact ⟨i, j, vx, vy, hc, q.here sm (.int _)⟩
def gSub : G2 := gInt (fun _ _ => True) (· - ·)
def gMod : G2 := gInt (fun _ j => j ≠ 0) Int.fmod
def gPow : G2 := gInt CPow fun i j => i ^ j.toNat
def CDvA (i j : Int) : Prop := j ≠ 0 ∧ Builtin.divisionGoesByPylong i j = false
def gDiv : G2 := gInt CDvA Int.fdiv
theorem vr_sub : VR2 X (binaryOp .Sub) gSub := vr_int (opI fun _ _ _ _ _ _ _ _ q => PyProof.Rows.sub_int q)
theorem vr_mod : VR2 X (binaryOp .Mod) gMod := vr_int op_modN
theorem vr_pow : VR2 X (binaryOp .Pow) gPow := vr_int op_pow
theorem vr_div : VR2 X (binaryOp .FloorDiv) gDiv := vr_int (opI fun _ _ _ _ _ _ _ hc q => PyProof.Rows.floordiv_int hc.1 q (.inl hc.2))
def gMul : G2 := fun a b Q => match a, b with
  | .int i, .int j => CMulX i j ∧ Q (.fz (.int (i * j)))
  | .tup xs, .int k => xs ≠ [] ∧ 2 ≤ k ∧ k ≤ 1000 ∧ xs.length ≤ 1000 ∧ Q (.fz (.tup (List.replicate k.toNat xs).flatten))
  | .lst xs, .int k => -(2 ^ 63) ≤ k ∧ k < 2 ^ 63 ∧ xs.length * k.toNat ≤ sizeLine ∧ Q (.ow (.lst (List.replicate k.toNat xs).flatten))
  | _, _ => False
theorem Mono2.mul : Mono2 gMul := ⟨fun {a b Q Q'} h q => by
  unfold gMul at q ⊢
  split at q
  · exact ⟨q.1, h _ q.2⟩
  · exact ⟨q.1, q.2.1, q.2.2.1, q.2.2.2.1, h _ q.2.2.2.2⟩
  · exact ⟨q.1, q.2.1, q.2.2.1, h _ q.2.2.2⟩
  · exact q⟩
theorem RepL.repl {M : Md} {F : Hp} {xs : List V} {ds : List D} (r : RepL M F xs ds) : ∀ n : Nat, RepL M F (List.replicate n xs).flatten (List.replicate n ds).flatten
  | 0 => .nil
  | n + 1 => by
    rw [List.replicate_succ, List.replicate_succ, List.flatten_cons, List.flatten_cons]
    exact r.append (RepL.repl r n)
theorem vr_mul : VR2 X (binaryOp .Mult) gMul :=
  .of (orR op_mulX (orR op_repT op_rep)) .mul fun F da db x y H Qv sm vx vy q => by
    unfold gMul at q
    split at q
    · cases vx; cases vy; exact .inl ⟨_, _, rfl, rfl, q.1, q.2.here sm (.int _)⟩
    · obtain ⟨a, xs, rfl, h1, h2⟩ := vx
      cases vy
      obtain ⟨n1, n2, n3, n4, q⟩ := q
      exact .inr (.inl ⟨a, _, xs, rfl, rfl, Same.sqT sm h1, fun z => n1 (by subst z; cases h2; rfl), n2, n3, by rw [h2.length]; exact n4, fun p hp => q.newT sm (h2.repl _) hp⟩)
    · obtain ⟨a, xs, rfl, h1, h2⟩ := vx
      cases vy
      obtain ⟨n1, n2, n3, q⟩ := q
      exact .inr (.inr ⟨a, _, xs, rfl, rfl, h1, n1, n2, by rw [h2.length]; exact n3, fun p hp => q.newL sm (h2.repl _) hp⟩)
    · exact q.elim
theorem RepL.atI {M : Md} {F : Hp} {xs : List V} {ds : List D} (r : RepL M F xs ds) {i : Int} {d : D} (h : atI ds i = some d) : ∃ v, L2.atI xs i = some v ∧ Rep M F v d := by
  unfold L2.atI at h ⊢
  rw [r.length]
  cases e : ixN ds.length i with
  | none => rw [e] at h; cases h
  | some j => rw [e] at h; exact r.get' h
def gIx : G2 := fun a b Q => match a, b with
  | .tup ds, .int i => ∃ d, atI ds i = some d ∧ Q (.fz d)
  | .lst ds, .int i => ∃ d, atI ds i = some d ∧ Q (.fz d)
  | .scr ns, .int i => ∃ n, atI ns i = some n ∧ Q (.fz (.int n))
  | .str z, .int i => z.length ≤ sizeLine ∧ ∃ c, atI z.cps.toList i = some c ∧ Q (.fz (.str ⟨#[c]⟩))
  | _, _ => False
theorem Mono2.ix : Mono2 gIx := ⟨fun {a b Q Q'} h q => by
  unfold gIx at q ⊢
  split at q
  · obtain ⟨d, e, q⟩ := q; exact ⟨d, e, h _ q⟩
  · obtain ⟨d, e, q⟩ := q; exact ⟨d, e, h _ q⟩
  · obtain ⟨d, e, q⟩ := q; exact ⟨d, e, h _ q⟩
  · obtain ⟨l, d, e, q⟩ := q; exact ⟨l, d, e, h _ q⟩
  · exact q⟩
theorem atI_map {ns : List Int} {i n : Int} (h : atI ns i = some n) : atI (ns.map V.int) i = some (.int n) := by
  unfold L2.atI at h ⊢
  rw [List.length_map]
  cases e : ixN ns.length i with
  | none => rw [e] at h; cases h
  | some j => rw [e] at h; show (ns.map V.int)[j]? = _; rw [List.getElem?_map]; rw [show ns[j]? = some n from h]; rfl
theorem vi_ix : VIx X gIx where
  ok := by
    intro value slice pins s σ H x y v u Q I rx ry q hs
    refine ix_seq value slice pins s σ H x y v u Q I rx ry ?_ hs
    obtain ⟨F, da, db, sm, vx, vy, q⟩ := q
    unfold gIx at q
    split at q
    · obtain ⟨a, xs, rfl, h1, h2⟩ := vx
      cases vy
      obtain ⟨d, e, q⟩ := q
      obtain ⟨w, e1, rw'⟩ := h2.atI e
      exact .inr (.inl ⟨a, xs, _, w, rfl, rfl, Same.sqT sm h1, e1, q.here sm rw'⟩)
    · obtain ⟨a, xs, rfl, h1, h2⟩ := vx
      cases vy
      obtain ⟨d, e, q⟩ := q
      obtain ⟨w, e1, rw'⟩ := h2.atI e
      exact .inl ⟨a, xs, _, w, rfl, rfl, .inl (.inl h1), e1, q.here sm rw'⟩
    · obtain ⟨a, rfl, h1⟩ := vx
      cases vy
      obtain ⟨d, e, q⟩ := q
      exact .inl ⟨a, _, _, _, rfl, rfl, h1, atI_map e, q.here sm (.int _)⟩
    · cases vx; cases vy
      obtain ⟨l, ch, e, q⟩ := q
      exact .inr (.inr ⟨_, _, _, rfl, rfl, l, e, q.here sm (.str _)⟩)
    · exact q.elim
  mo := .ix
theorem VRL.of {f : Value} {g : GL} {r : List V → Hp → VK → Prop} (ho : CallR X f r) (m : MonoL g)
    (h : ∀ F ds vs H Qv, Same F H → VwL (mdX X) F H vs ds → g ds (NPost (mdX X) F H Qv) → r vs H Qv) : VRL X f g :=
  ⟨fun pins s σ H xs us Q I r ⟨F, ds, sm, vl, q⟩ => ho pins s σ H xs us Q I r (h F ds xs H Q sm vl q), m⟩
theorem VwL.one {M : Md} {F H : Hp} {vs : List V} {d : D} (h : VwL M F H vs [d]) : ∃ v, vs = [v] ∧ Vw M F H v d := by
  match vs, h with
  | [v], ⟨h, _⟩ => exact ⟨v, rfl, h⟩
  | _ :: _ :: _, ⟨_, h⟩ => exact h.elim
theorem VwL.two {M : Md} {F H : Hp} {vs : List V} {d d' : D} (h : VwL M F H vs [d, d']) : ∃ v v', vs = [v, v'] ∧ Vw M F H v d ∧ Vw M F H v' d' := by
  match vs, h with
  | [_], ⟨_, h⟩ => exact h.elim
  | [v, v'], ⟨h, h', _⟩ => exact ⟨v, v', rfl, h, h'⟩
  | _ :: _ :: _ :: _, ⟨_, _, h⟩ => exact h.elim
def gLen : GL := fun ds Q => match ds with
  | [.tup ds] => Q (.fz (.int ds.length))
  | [.lst ds] => Q (.fz (.int ds.length))
  | [.scr ns] => Q (.fz (.int ns.length))
  | [.str z] => z.length ≤ sizeLine ∧ Q (.fz (.int z.length))
  | _ => False
theorem vl_len : VRL X (.builtin "len") gLen :=
  .of call_len ⟨fun {ds Q Q'} h q => by
    unfold gLen at q ⊢
    split at q <;> first | exact h _ q | exact ⟨q.1, h _ q.2⟩ | exact q⟩ fun F ds vs H Qv sm vl q => by
    unfold gLen at q
    split at q
    · obtain ⟨v, rfl, a, xs, rfl, h1, h2⟩ := vl.one
      exact ⟨_, _, rfl, .inr ⟨xs, Same.sqT sm h1, h2.length.symm⟩, q.here sm (.int _)⟩
    · obtain ⟨v, rfl, a, xs, rfl, h1, h2⟩ := vl.one
      exact ⟨_, _, rfl, .inl ⟨xs, .inl (.inl h1), h2.length.symm⟩, q.here sm (.int _)⟩
    · obtain ⟨v, rfl, a, rfl, h1⟩ := vl.one
      exact ⟨_, _, rfl, .inl ⟨_, h1, by rw [List.length_map]⟩, q.here sm (.int _)⟩
    · obtain ⟨v, rfl, hv⟩ := vl.one
      cases hv
      exact ⟨_, _, rfl, ⟨q.1, rfl⟩, q.2.here sm (.int _)⟩
    · exact q.elim
def gAbs : GL := fun ds Q => ∃ i, ds = [.int i] ∧ Q (.fz (.int (if i < 0 then -i else i)))
theorem vl_abs : VRL X (.builtin "abs") gAbs :=
  .of call_abs ⟨fun h ⟨i, e, q⟩ => ⟨i, e, h _ q⟩⟩ fun F ds vs H Qv sm vl ⟨i, e, q⟩ => by
    subst e
    obtain ⟨v, rfl, hv⟩ := vl.one
    cases hv
    exact ⟨i, rfl, q.here sm (.int _)⟩
def gMax2 : GL := fun ds Q => ∃ i j, ds = [.int i, .int j] ∧ Q (.fz (.int (if j > i then j else i)))
def gMin2 : GL := fun ds Q => ∃ i j, ds = [.int i, .int j] ∧ Q (.fz (.int (if j < i then j else i)))
theorem vl_min2 (hc : X.calm = true) : VRL X (.builtin "min") gMin2 :=
  .of (call_min2 hc) ⟨fun h ⟨i, j, e, q⟩ => ⟨i, j, e, h _ q⟩⟩ fun F ds vs H Qv sm vl ⟨i, j, e, q⟩ => by
    subst e
    obtain ⟨v, v', rfl, hv, hv'⟩ := vl.two
    cases hv; cases hv'
    exact ⟨i, j, rfl, q.here sm (.int _)⟩
def gInt1 : GL := fun ds Q => (∃ i, ds = [.int i] ∧ Q (.fz (.int i))) ∨ ∃ k : Bool, ds = [.bl k] ∧ Q (.fz (.int (if k then 1 else 0)))
theorem vl_int : VRL X (.type "int") gInt1 :=
  .of call_int1 ⟨fun h q => q.elim (fun ⟨i, e, q⟩ => .inl ⟨i, e, h _ q⟩) (fun ⟨i, e, q⟩ => .inr ⟨i, e, h _ q⟩)⟩ fun F ds vs H Qv sm vl q => by
    rcases q with ⟨i, e, q⟩ | ⟨k, e, q⟩
    · subst e
      obtain ⟨v, rfl, hv⟩ := vl.one
      cases hv
      exact .inl ⟨i, rfl, q.here sm (.int _)⟩
    · subst e
      obtain ⟨v, rfl, hv⟩ := vl.one
      cases hv
      exact .inr ⟨k, rfl, q.here sm (.int _)⟩
def gList : GL := fun ds Q => match ds with
  | [.tup ds] => Q (.ow (.lst ds))
  | [.lst ds] => Q (.ow (.lst ds))
  | [.scr ns] => Q (.ow (.lst (ns.map D.int)))
  | _ => False
theorem vl_list : VRL X (.type "list") gList :=
  .of call_list_of ⟨fun {ds Q Q'} h q => by
    unfold gList at q ⊢
    split at q <;> first | exact h _ q | exact q⟩ fun F ds vs H Qv sm vl q => by
    unfold gList at q
    split at q
    · obtain ⟨v, rfl, a, xs, rfl, h1, h2⟩ := vl.one
      exact ⟨a, xs, rfl, .inr (Same.sqT sm h1), fun l hl => q.newL sm h2 hl⟩
    · obtain ⟨v, rfl, a, xs, rfl, h1, h2⟩ := vl.one
      exact ⟨a, xs, rfl, .inl (.inl (.inl h1)), fun l hl => q.newL sm h2 hl⟩
    · obtain ⟨v, rfl, a, rfl, h1⟩ := vl.one
      exact ⟨a, _, rfl, .inl h1, fun l hl => q.newL sm (RepL.of_ints _) hl⟩
    · exact q.elim
def gTuple : GL := fun ds Q => match ds with
  | [.tup ds] => Q (.fz (.tup ds))
  | [.lst ds] => Q (.fz (.tup ds))
  | [.scr ns] => Q (.fz (.tup (ns.map D.int)))
  | _ => False
theorem vl_tuple : VRL X (.type "tuple") gTuple :=
  .of call_tuple_of ⟨fun {ds Q Q'} h q => by
    unfold gTuple at q ⊢
    split at q <;> first | exact h _ q | exact q⟩ fun F ds vs H Qv sm vl q => by
    unfold gTuple at q
    split at q
    · obtain ⟨v, rfl, a, xs, rfl, h1, h2⟩ := vl.one
      exact ⟨a, xs, rfl, .inr ⟨Same.sqT sm h1, q.here sm (.tup h1 h2)⟩⟩
    · obtain ⟨v, rfl, a, xs, rfl, h1, h2⟩ := vl.one
      exact ⟨a, xs, rfl, .inl ⟨.inl (.inl h1), fun l hl => q.newT sm h2 hl⟩⟩
    · obtain ⟨v, rfl, a, rfl, h1⟩ := vl.one
      exact ⟨a, _, rfl, .inl ⟨h1, fun l hl => q.newT sm (RepL.of_ints _) hl⟩⟩
    · exact q.elim
def gAll : GL := fun ds Q => ∃ bs : List Bool, ds = [.lst (bs.map D.bl)] ∧ Q (.fz (.bl (bs.all id)))
theorem RepL.bls {M : Md} {F : Hp} : ∀ {vs : List V} {bs : List Bool}, RepL M F vs (bs.map D.bl) → vs = bs.map V.bl
  | _, [], .nil => rfl
  | _, n :: ns, .cons h r => by
    cases h
    rw [RepL.bls (bs := ns) r]; rfl
theorem vl_all (hc : X.calm = true) : VRL X (.builtin "all") gAll :=
  .of (cr_all hc) ⟨fun h ⟨i, e, q⟩ => ⟨i, e, h _ q⟩⟩ fun F ds vs H Qv sm vl ⟨bs, e, q⟩ => by
    subst e
    obtain ⟨v, rfl, a, xs, rfl, h1, h2⟩ := vl.one
    rw [RepL.bls h2] at h1
    exact ⟨a, bs, rfl, .inl (.inl h1), q.here sm (.bl _)⟩
def gSum : GL := fun ds Q => ∃ ns : List Int, ds = [.lst (ns.map D.int)] ∧ Q (.fz (.int ns.sum))
theorem vl_sum (hc : X.calm = true) : VRL X (.builtin "sum") gSum :=
  .of (cr_sum hc) ⟨fun h ⟨i, e, q⟩ => ⟨i, e, h _ q⟩⟩ fun F ds vs H Qv sm vl ⟨bs, e, q⟩ => by
    subst e
    obtain ⟨v, rfl, a, xs, rfl, h1, h2⟩ := vl.one
    rw [RepL.ints h2] at h1
    exact ⟨a, bs, rfl, .inl (.inl h1), q.here sm (.int _)⟩
def gMaxL : GL := fun ds Q => ∃ (ns : List Int) (m : Int), ds = [.lst (ns.map D.int)] ∧ m ∈ ns ∧ (∀ y ∈ ns, y ≤ m) ∧ Q (.fz (.int m))
theorem vl_maxL (hc : X.calm = true) : VRL X (.builtin "max") gMaxL :=
  .of (cr_max hc) ⟨fun h ⟨i, m, e, a, b, q⟩ => ⟨i, m, e, a, b, h _ q⟩⟩ fun F ds vs H Qv sm vl ⟨bs, m, e, hm, hx, q⟩ => by
    subst e
    obtain ⟨v, rfl, a, xs, rfl, h1, h2⟩ := vl.one
    rw [RepL.ints h2] at h1
    refine ⟨a, bs, rfl, .inl (.inl h1), List.length_pos_of_mem hm, fun m' h h' => ?_⟩
    have : m' = m := Int.le_antisymm (hx _ h) (h' _ hm)
    subst this
    exact q.here sm (.int _)
end
end LV
namespace LV
open PySem PySem.Spec L2
structure RoomG (k : Nat) (A : Around) : Prop where
  rm : Room k A
  gd : A.guards = some []
theorem RoomG.mono {j k : Nat} {A : Around} (r : RoomG k A) (h : j ≤ k) : RoomG j A := ⟨r.rm.mono h, r.gd⟩
theorem RoomG.deeper {k : Nat} {A : Around} (r : RoomG (k + 1) A) (env : Env) : RoomG k (A.deeper env) := ⟨r.rm.deeper env, r.gd⟩
structure FnG (P : Program) (w : World) (K : PySem.W.Frag) (mg : Str → Option Value) (base : Heap) (k : Nat) (f : Addr) (fd : FuncData) (ps : List Str) (sp : Sp) : Prop where
  len : ∀ vs H Q E, sp vs H Q E → vs.length = ps.length
  run : ∀ (A : Around) (outer : List Env) (s : Shared) (H : Hp) (args : Args) (us : List Value) (vs : List V) (Q : VK) (E : XK), RoomG k A → Env0 P w K mg base A outer s H → BindsTo s fd args (ps.zip us) → Vals vs us → sp vs H Q E →
    codeAny (model P w) A (.call (.ref f) args) (CR (L2.CX P w) outer P w H s Q E) s
theorem FnG.mono {P : Program} {w : World} {K : PySem.W.Frag} {mg : Str → Option Value} {base : Heap} {j k : Nat} {f : Addr} {fd : FuncData} {ps : List Str} {sp : Sp} (F : FnG P w K mg base j f fd ps sp) (h : j ≤ k) : FnG P w K mg base k f fd ps sp :=
  ⟨F.len, fun A outer s H args us vs Q E hr => F.run A outer s H args us vs Q E (hr.mono h)⟩
theorem FnG.of {P : Program} {w : World} {K : PySem.W.Frag} {mg : Str → Option Value} {base : Heap} {k : Nat} {f : Addr} {fd : FuncData} {ps : List Str} {sp : Sp} (F : FnOk P w K mg base (L2.CX P w) k f fd ps sp) : FnG P w K mg base k f fd ps sp :=
  ⟨F.len, fun A outer s H args us vs Q E hr => F.run A outer s H args us vs Q E hr.rm⟩
section
variable {X : Cx} {k : Nat} {f : Addr} {fd : FuncData} {ps : List Str} {sp : Sp} {E : L2.St → XK} {x : Str} {p pos : Pos} {e : Expr} {es : List Expr} {t : TA}
theorem run_fnG {pins : List (Addr × Obj)} {σ : L2.St} {H : Hp} {s : Shared} {Q : VK} {us : List Value} {vs : List V} (F : FnG X.prog X.w X.K X.mg X.base k f fd ps sp) (hr : RoomG k X.A) (hb : Binds X.K fd ps []) (hx : PassesAt (L2.CX X.prog X.w) X σ (E σ))
    (I : L2.Inv X pins σ H s) (r : Vals vs us) (h : sp vs H Q (E σ)) : wpAny (model X.prog X.w) X.A (call (.ref f) us) (EP X pins σ Q) X.xe s := by
  have b := hb s us I.kIn (by rw [List.append_nil, ← r.length]; exact F.len _ _ _ _ h)
  rw [List.append_nil] at b
  refine wpAny_call (codeAny_mono (F.run X.A X.stack s H ⟨us, []⟩ us vs Q (E σ) hr I.env0 b r h) fun r s' hq => ?_)
  match r, hq with
  | .error e, hq => exact hx pins H s e s' I hq
  | .ok (.ret u), hq => exact I.after hq
  | .ok .next, hq => exact hq.elim
  | .ok .brk, hq => exact hq.elim
  | .ok .cont, hq => exact hq.elim
theorem pe_callG (F : FnG X.prog X.w X.K X.mg X.base k f fd ps sp) (hr : RoomG k X.A) (hg : Gl X x) (hm : X.mg x = some (.ref f)) (hk : PySem.W.keepIn X.K (.ref f) = true) (hb : Binds X.K fd ps []) (hx : ∀ σ, PassesAt (L2.CX X.prog X.w) X σ (E σ))
    (ha : PA X (e :: es) t) (hdb : (x == ("__debug__" : Str)) = false := by decide) (he : starEach (e :: es) X.env = (false, eval e X.env) :: starEach es X.env := by rfl) (hpl : (backTo pos (starEach es X.env)).any (·.1) = false := by rfl) :
    PE X (.Call (.Name x p) (e :: es) [] pos) (tCallS sp E t) :=
  ⟨fun pins s σ H Q I h => wpAny_Call_Name_kw (ld_glob I hg hm (PySem.W.callWith_K (h₀ := X.base) I.ok.mod.kin hk (thn (ha.run pos pins s σ H _ I h) fun us s1 ⟨vs, H1, I1, r, q⟩ => ⟨I1.kIn, run_fnG F hr hb (hx σ) I1 r q⟩) he hpl) hdb)⟩
end
section
variable {X : Cx} {c : Ct} {W : WX} {e : Expr} {es : List Expr} {wl : AW} {pos p : Pos} {x : Str} {k : Nat} {f : Addr} {fd : FuncData} {ps : List Str} {S : FSpec}
theorem se_callG (F : FnG X.prog X.w X.K X.mg X.base k f fd ps (toSp (mdX X) S)) (mS : MonoF S) (tk : Takes X W) (hr : RoomG k X.A) (hg : Gl X x) (hm : X.mg x = some (.ref f)) (hk : PySem.W.keepIn X.K (.ref f) = true) (hb : Binds X.K fd ps [])
    (ha : SA X c W (e :: es) wl) (hdb : (x == ("__debug__" : Str)) = false := by decide) (he : starEach (e :: es) X.env = (false, eval e X.env) :: starEach es X.env := by rfl) (hpl : (backTo pos (starEach es X.env)).any (·.1) = false := by rfl) :
    SE X c W (.Call (.Name x p) (e :: es) [] pos) (wCall S wl) :=
  ⟨PE.imp (pe_callG F hr hg hm hk hb (passAt tk) ha.pa hdb he hpl) fun σ H Q h => call_core mS ha.mo h, .call mS ha.mo⟩
end
section
variable {P : Program} {w : World} {K : PySem.W.Frag} {mg : Str → Option Value} {base : Heap}
/-- a def of the text, with its body's reading -/
theorem fn_ofG {k : Nat} {f : Addr} {name qual : Str} {params : Arguments} {body : List Stmt} {scope : Scope} {dV kV doc pm cdv ct oc : Value} {an od : Option Addr} {osl : Array (Option Value)} {N ps : List Str} {sp : Sp}
    (lk : K.lookup f = some ⟨oc, od, .func (PySem.W.fnOf name qual params body scope dV kV doc pm an cdv ct), osl⟩) (hcd : PySem.W.codeIn K cdv qual = true) (S : FnScope N ps scope) (len : ∀ vs H Q E, sp vs H Q E → vs.length = ps.length)
    (hbody : ∀ (A : Around) (outer : List Env) (s : Shared) (H : Hp) (vs : List V) (Q : VK) (E : XK), RoomG k (A.deeper (PyProof.Rows.envOfC qual scope s.heap.objs.size f cdv)) → sp vs H Q E →
      ∃ t, PSs (cxOf (L2.CX P w) P w K mg base N qual scope f cdv A outer s H E) body t ∧ t { nx := fun _ H' => Q .non H', rt := Q } (start N vs) H) :
    FnG P w K mg base (k + 1) f (PySem.W.fnOf name qual params body scope dV kV doc pm an cdv ct) ps sp where
  len := len
  run := fun A outer s H args us vs Q E hr e0 hb r hsp => by
    have KX : K.In s.heap := e0.mod.kin.keeps fun b o e => (e0.bs b o e).1
    have lim : s.heap.NoLimit := e0.mod.nolimit.keeps fun b o e => (e0.bs b o e).1
    refine codeAny_call_function hr.rm.depth (KX _ _ lk) rfl S.co S.gen rfl (PySem.W.codeRec_of KX hcd) (hb _ _ _ _ (wpAny_newFunctionEnv_cells S.kind (fun ⟨n, v⟩ hy => ?_) fun env he s1 x => ?_))
    · exact (S.par n (List.of_mem_zip hy).1).elim .inl fun q => .inr ⟨q, PySem.W.cellsFrom_some _ _ _ (.inl q)⟩
    · subst he
      refine ⟨lim.keeps x.toInCall.keep, codeAny_func ?_⟩
      obtain ⟨t, ht, hq⟩ := hbody A outer s H vs Q E (hr.deeper _) hsp
      refine wpAny_mono (ht.run [] s1 (start N vs) H _ (inv_start S hr.rm.hd e0 (len _ _ _ _ hsp) r x) hq) (fun fl s' hs => ?_) fun e s' hs => hs
      match fl, hs with
      | .ret u, ⟨v, σ', H', J, rv, q⟩ => exact ⟨v, H', J.os, J.bare, J.base, J.hok, rv, q⟩
      | .next, ⟨σ', H', J, q⟩ => exact ⟨.non, H', J.os, J.bare, J.base, J.hok, rfl, q⟩
      | .brk, ⟨_, _, _, q⟩ => exact q.elim
      | .cont, ⟨_, _, _, q⟩ => exact q.elim
theorem fn_lvG {x qual : Str} {st : Stmt} {f : Addr} {fd : FuncData} {N ps : List Str} {k : Nat} {S : FSpec} {b : SW} (pn : List Nat) (Fn : Fun K x qual st f fd) (Sc : FnScope N ps (defScope st)) (kp : Keeps S pn ps.length N.length b)
    (hbody : ∀ (cdv : Value) (A : Around) (outer : List Env) (s : Shared) (H : Hp) (E : XK), RoomG k (A.deeper (PyProof.Rows.envOfC qual (defScope st) s.heap.objs.size f cdv)) →
      ∀ c : Ct, c.pn = pn → SSs (cxOf (L2.CX P w) P w K mg base N qual (defScope st) f cdv A outer s H E) c (fun cls d _ H => E cls d H) (defBody st) b) :
    FnG P w K mg base (k + 1) f fd ps (toSp ⟨K, mg, w⟩ S) := by
  have hpl : ps.length ≤ N.length := by have := congrArg List.length Sc.pre; rw [List.length_take] at this; omega
  have lenOf : ∀ {F H : Hp} {vs : List V} {args : List Val}, Rel ⟨K, mg, w⟩ (ctN H) F H (sV vs) (eV args) → vs.length = args.length := fun {F H vs args} R => by
    have := R.len
    unfold eV sV at this
    simpa using this.symm
  obtain ⟨oc, od, kV, doc, pm, an, cdv, ct, osl, rfl, lk, hcd⟩ := Fn.ex
  refine fn_ofG lk hcd Sc (fun vs H Q E ⟨F, args, R, h⟩ => by rw [lenOf R, (kp.fit _ _ _ h).len]) fun A outer s H vs Q E hr ⟨F, args, R, h⟩ => ?_
  have hf := kp.fit _ _ _ h
  have B := hbody cdv A outer s H E hr ⟨pn, start N vs, H, fun _ _ _ => False, H⟩ rfl
  refine ⟨_, B.ps, F, startE N.length args, R.begin hf hpl, B.mo.mo (K := KsFn pn args _ _) ⟨fun e q => ?_, fun r e q => ?_, fun _ z => z.elim, fun _ z => z.elim, fun xx e q => ?_⟩ (kp.run _ _ _ h)⟩
  · intro σ' F' H' R' ev
    obtain ⟨as, ea, q⟩ := q
    obtain ⟨R2, ev2, _⟩ := R.finish hf R' ev ea
    exact q .non F' H' R2 ev2 .non
  · intro v σ' F' H' R' ev ok
    obtain ⟨as, ea, q⟩ := q
    obtain ⟨R2, ev2, sub⟩ := R.finish hf R' ev ea
    refine q v F' H' R2 ev2 ?_
    cases r with
    | fz d => exact ok
    | sl i => exact ok.elim
    | ow o =>
      obtain ⟨p, a1, a2, a3, a4, a5⟩ := ok
      exact ⟨p, a1, a2, a3, fun b hb z => a4 b hb (sub b z), fun b hb => hb.elim (fun e => e ▸ a5.1) (a5.2 b)⟩
  · intro cl d σ' F' H' R' ev xo
    obtain ⟨as, ea, q⟩ := q
    obtain ⟨R2, ev2, _⟩ := R.finish hf R' ev ea
    exact q cl d F' H' R2 ev2 xo
end
/-- the law keeps: at every script it answers True -/
def SLaw (n : Nat) : FSpec := fun args Q _ => ∃ ns : List Int, args = [.fz (.scr ns)] ∧ ns.length ≤ n ∧ (∀ z ∈ ns, Builtin.Int.intBits z ≤ 1048576) ∧ ∀ as, backOk args as = true → Q (.fz (.bl true)) as
end LV
namespace LV
open PySem PySem.Spec L2
theorem sp_law {M : Md} {H : Hp} {a : Addr} {n : Nat} {ns : List Int} (hn : ns.length ≤ n) (hb : ∀ z ∈ ns, Builtin.Int.intBits z ≤ 1048576) (h : SqL M.K H a (ns.map V.int)) :
    toSp M (SLaw n) [.ref a] H (fun v _ => v = .bl true) fun _ _ _ => False := by
  refine ⟨H, [.fz (.scr ns)], ⟨Same.refl _, rfl, fun i d e => ?_, fun i o e => ?_, fun i _ _ _ _ e => ?_, fun i j o u p e => ?_, fun i hi => (nomatch hi), fun b u e => (nomatch e), fun i o p e => ?_, fun i o b e => ?_, fun b u e => ⟨u, e⟩⟩, ns, rfl, hn, hb, fun as k v F' H' R' ev ok => ?_⟩
  · cases i with
    | zero => cases e; exact ⟨.ref a, rfl, .scr h⟩
    | succ i => simp [eV] at e
  · cases i with
    | zero => cases e
    | succ i => simp [eV] at e
  · cases i with
    | zero => cases e
    | succ i => simp [eV] at e
  · cases i with
    | zero => cases e
    | succ i => simp [eV] at e
  · cases i with
    | zero => cases e
    | succ i => simp [eV] at e
  · cases i with
    | zero => cases e
    | succ i => simp [eV] at e
  · cases (show Rep M F' v (.bl true) from ok); rfl
section
variable {P : Program} {w : World} {K : PySem.W.Frag} {mg mb : Str → Option Value} {k n : Nat} {fa a : Addr} {fd : FuncData} {x : Str} {s₁ : Shared} {vs : List Value} {ns : List Int}
/-- the law is called on a heap in which H is tracked: nothing but the script -/
theorem law_run (KX : K.In s₁.heap) (hns : s₁.heap.Ns mainGlobals mg) (hb : s₁.heap.Ns builtinsNs mb) (hbb : ∀ x : Str, x ≠ "__name__" → mb x = bootBuiltins x) (hlim : s₁.heap.NoLimit) (hg : s₁.gens = #[])
    (ha : s₁.heap.get? a = some { cls := .type "list", data := .seq vs.toArray }) (hr : RoomG k callerA) (hn : ns.length ≤ n) (hz : ∀ z ∈ ns, Builtin.Int.intBits z ≤ 1048576)
    (F : ∀ base : Heap, K.In base → base.Ns mainGlobals mg → FnG P w K mg base k fa fd [x] (toSp ⟨K, mg, w⟩ (SLaw n))) (hbind : ∀ (s : Shared) (u : Value), BindsTo s fd ⟨[u], []⟩ [(x, u)])
    {H : Hp} (hO : Only H) (hS : SqL K H a (ns.map V.int)) (hok : HOk P w H s₁.heap) (hA : ∀ b, H b ≠ none → b = a) (hK : H a ≠ none → K.lookup a = none) :
    codeAny (model P w) callerA (.call (.ref fa) ⟨[.ref a], []⟩) (fun r s' => r = .ok (.ret (.bool true)) ∧ OldK s₁.heap s'.heap ∧ s'.os = s₁.os ∧ PyProof.Rows.AllBare s'.gens) s₁ := by
  have only : ∀ {b : Addr}, (b = a → H b = none) → H b = none := fun {b} h => by
    by_cases e : b = a
    · exact h e
    · cases q : H b with
      | none => rfl
      | some u => exact absurd (hA b (by rw [q]; simp)) e
  have dct : ∀ {b : Addr} {o : Obj} {es : Array DictEntry} {ep : Nat}, s₁.heap.get? b = some o → o.data = .dict es ep → H b = none := fun {b o es ep} e d => only fun z => by
    subst z
    rw [ha] at e; cases e; cases d
  have keepN : ∀ {b : Addr} {m : Str → Option Value}, s₁.heap.Ns b m → (hidT s₁.heap H).Ns b m := fun ⟨o, es, ep, e, d, r⟩ => ⟨o, es, ep, hidT_get e (dct e d), d, r⟩
  have keepK : K.In (hidT s₁.heap H) := fun b o e => hidT_get (KX b o e) (by
    cases q : H b with
    | none => rfl
    | some u =>
      have z := hA b (by rw [q]; simp)
      subst z
      rw [hK (by rw [q]; simp)] at e; cases e)
  have e0 : Env0 P w K mg (hidT s₁.heap H) callerA [] s₁ H :=
    ⟨rfl, ⟨keepK, keepN hns, ⟨mb, keepN hb, hbb⟩, let ⟨mc, h1, h2⟩ := hlim; ⟨mc, keepN h1, h2⟩⟩, fun b o e => of_hidT e, Nat.le_of_eq (hidT_size _ _), trivial, fun b hb => (nomatch hb), hok, .of_eq hg⟩
  refine codeAny_mono ((F _ keepK (keepN hns)).run callerA [] s₁ H ⟨[.ref a], []⟩ [.ref a] [.ref a] _ _ hr e0 (hbind s₁ (.ref a)) (.cons rfl .nil) (sp_law hn hz hS)) fun r s' h => ?_
  match r, h with
  | .error e, ⟨_, _, _, _, _, _, _, _, _, _, _, _, z⟩ => exact z.elim
  | .ok .next, h => exact h.elim
  | .ok .brk, h => exact h.elim
  | .ok .cont, h => exact h.elim
  | .ok (.ret u), ⟨v, H', os, bare, un, hok', r', q⟩ =>
    have q' : v = .bl true := q
    subst q'
    obtain rfl : u = Value.bool true := r'
    refine ⟨rfl, OldK.of_keep fun b o e => ?_, os, bare⟩
    rcases hO b with z | ⟨ob, xs, z⟩
    · exact un.keep b o e z (by intro z; exact nomatch z) (by simp)
    · have z2 := un.frzs b ob _ z
      obtain ⟨e1, _⟩ := hok b _ z
      obtain ⟨e2, _⟩ := hok' b _ z2
      rw [e] at e1; cases e1
      exact e2
theorem law_callG (KX : K.In s₁.heap) (hns : s₁.heap.Ns mainGlobals mg) (hb : s₁.heap.Ns builtinsNs mb) (hbb : ∀ x : Str, x ≠ "__name__" → mb x = bootBuiltins x) (hlim : s₁.heap.NoLimit) (hg : s₁.gens = #[])
    (ha : s₁.heap.get? a = some { cls := .type "list", data := .seq vs.toArray }) (hi : PyProof.Rows.IntsAre vs ns) (hr : RoomG k callerA) (hn : ns.length ≤ n) (hl : n ≤ sizeLine) (hz : ∀ z ∈ ns, Builtin.Int.intBits z ≤ 1048576)
    (F : ∀ base : Heap, K.In base → base.Ns mainGlobals mg → FnG P w K mg base k fa fd [x] (toSp ⟨K, mg, w⟩ (SLaw n))) (hbind : ∀ (s : Shared) (u : Value), BindsTo s fd ⟨[u], []⟩ [(x, u)]) :
    codeAny (model P w) callerA (.call (.ref fa) ⟨[.ref a], []⟩) (fun r s' => r = .ok (.ret (.bool true)) ∧ OldK s₁.heap s'.heap ∧ s'.os = s₁.os ∧ PyProof.Rows.AllBare s'.gens) s₁ := by
  have rv := vals_ints hi
  have lenV := hi.length
  cases hk : K.lookup a with
  | some o =>
    have e := KX a o hk
    rw [ha] at e
    cases e
    exact law_run (H := fun _ => none) KX hns hb hbb hlim hg ha hr hn hz F hbind (fun _ => .inl rfl) (.inr ⟨_, vs.toArray, _, hk, rfl, rfl, rfl, by rw [List.size_toArray, lenV]; omega, by simpa using rv⟩) (fun b u z => nomatch z) (fun b z => absurd rfl z) fun z => absurd rfl z
  | none =>
    refine law_run (H := fun b => if b = a then some (.frz { cls := .type "list", data := .seq vs.toArray } (.lst (ns.map V.int))) else none) KX hns hb hbb hlim hg ha hr hn hz F hbind (fun b => ?_) (.inl (.inr ⟨_, if_pos rfl⟩)) (fun b u z => ?_) (fun b z => ?_) fun _ => hk
    · by_cases e : b = a
      · exact .inr ⟨_, _, if_pos e⟩
      · exact .inl (if_neg e)
    · by_cases e : b = a
      · cases (if_pos e).symm.trans z
        subst e
        exact ⟨ha, by rw [List.length_map]; omega, vs, _, rv, ha⟩
      · cases (if_neg e).symm.trans z
    · by_cases e : b = a
      · exact e
      · exact absurd (if_neg e) z
end
/-- the goal that k_head leaves, from the law's promise -/
theorem walk_lv {l : PySem.W.OpenLaw} {n k : Nat} {q : Program} {loose : List Str} {XP : (Str → Option Value) → Heap → Prop} {YP : World → Heap → Prop} {d : DefRec} {K : Params → PySem.W.Frag} {x : Str}
    (hn : l.most = some n) (hn2 : n ≤ sizeLine) (hdf : d.params.defaults = []) (hr : RoomG k callerA) (hY : ∀ (w : World) (h : Heap), YP w h → (K w.params).In h)
    (F : ∀ (w : World) (mg : Str → Option Value) (fa : Addr) (h : Heap), (K w.params).In h → h.Ns mainGlobals mg → mg d.name = some (.ref fa) →
      ∃ fd : FuncData, (∀ (s : Shared) (u : Value), BindsTo s fd ⟨[u], []⟩ [(x, u)]) ∧
        ∀ base : Heap, (K w.params).In base → base.Ns mainGlobals mg → FnG l.prog w (K w.params) mg base k fa fd [x] (toSp ⟨K w.params, mg, w⟩ (SLaw n))) :
    PySem.W.WalkO q loose XP YP l.row.toRowW d [] (fun f vs => PySem.call f vs) := by
  refine Att.attach_callB hn hdf fun w s₀ s₁ mg mb fa o pm cd doc a vs ns G Y ho hd hcd hmg hobj hints hlen hbits hg => ?_
  obtain ⟨fd, hb, hF⟩ := F w mg fa _ (hY w _ Y) G.T.g hmg
  exact law_callG (hY w _ Y) G.T.g G.T.b G.T.builtins G.T.nolimit hg hobj hints hr hlen hn2 hbits hF hb
end LV
namespace LV
open PySem PySem.Spec L2
end LV
namespace LV
open PySem PySem.Spec L2
theorem map3 {α β γ δ : Type} {o : Option α} {f : α → β} {g : α → γ} {h : α → δ} {a : β} {b : γ} {c : δ} (e1 : o.map f = some a) (e2 : o.map g = some b) (e3 : o.map h = some c) : o.map (fun s => (f s, g s, h s)) = some (a, b, c) := by
  cases o with
  | none => cases e1
  | some s =>
    injection e1 with e1
    injection e2 with e2
    injection e3 with e3
    show some (f s, g s, h s) = _
    rw [e1, e2, e3]
end LV
namespace LV
open PySem PySem.W PyProof.Rows HeadRun
theorem seen9 {α : Type} {o : Option α} {ab : α → Shared} {q : Program} {loose mods : List PySem.Str} {Xt : Shared → Bool}
    (e1 : o.map (fun s => (seenQ q loose mods Xt (ab s)).1) = some (expectedOf q))
    (e2 : o.map (fun s => (seenQ q loose mods Xt (ab s)).2.1) = some bltViewBooted)
    (e3 : o.map (fun s => (seenQ q loose mods Xt (ab s)).2.2.1) = some true)
    (e4 : o.map (fun s => (seenQ q loose mods Xt (ab s)).2.2.2.1) = some true)
    (e5 : o.map (fun s => (seenQ q loose mods Xt (ab s)).2.2.2.2.1) = some (pinGoodD (drecsOf q)))
    (e6 : o.map (fun s => (seenQ q loose mods Xt (ab s)).2.2.2.2.2.1) = some (plainGoodE q (looseW q loose)))
    (e7 : o.map (fun s => (seenQ q loose mods Xt (ab s)).2.2.2.2.2.2.1) = some (plainGoodD q loose))
    (e8 : o.map (fun s => (seenQ q loose mods Xt (ab s)).2.2.2.2.2.2.2.1) = some (wideGood q))
    (e9 : o.map (fun s => (seenQ q loose mods Xt (ab s)).2.2.2.2.2.2.2.2) = some (clsGoodW q loose)) :
    o.map (fun s => seenQ q loose mods Xt (ab s)) = some (openGood q loose) := by
  cases o with
  | none => cases e1
  | some s =>
    injection e1 with e1
    injection e2 with e2
    injection e3 with e3
    injection e4 with e4
    injection e5 with e5
    injection e6 with e6
    injection e7 with e7
    injection e8 with e8
    injection e9 with e9
    exact congrArg some (Prod.ext e1 (Prod.ext e2 (Prod.ext e3 (Prod.ext e4 (Prod.ext e5 (Prod.ext e6 (Prod.ext e7 (Prod.ext e8 e9))))))))
end LV
namespace LV
open PySem PySem.W PyProof.Rows HeadRun
/-- the same, told of another name of the view -/
theorem seen9q {α : Type} {o : Option α} {ab : α → Shared} {q q' : Program} {loose mods : List PySem.Str} {Xf : Program → Shared → Bool} (hq : q = q')
    (e1 : o.map (fun s => (seenQ q' loose mods (Xf q') (ab s)).1) = some (expectedOf q'))
    (e2 : o.map (fun s => (seenQ q' loose mods (Xf q') (ab s)).2.1) = some bltViewBooted)
    (e3 : o.map (fun s => (seenQ q' loose mods (Xf q') (ab s)).2.2.1) = some true)
    (e4 : o.map (fun s => (seenQ q' loose mods (Xf q') (ab s)).2.2.2.1) = some true)
    (e5 : o.map (fun s => (seenQ q' loose mods (Xf q') (ab s)).2.2.2.2.1) = some (pinGoodD (drecsOf q')))
    (e6 : o.map (fun s => (seenQ q' loose mods (Xf q') (ab s)).2.2.2.2.2.1) = some (plainGoodE q' (looseW q' loose)))
    (e7 : o.map (fun s => (seenQ q' loose mods (Xf q') (ab s)).2.2.2.2.2.2.1) = some (plainGoodD q' loose))
    (e8 : o.map (fun s => (seenQ q' loose mods (Xf q') (ab s)).2.2.2.2.2.2.2.1) = some (wideGood q'))
    (e9 : o.map (fun s => (seenQ q' loose mods (Xf q') (ab s)).2.2.2.2.2.2.2.2) = some (clsGoodW q' loose)) :
    o.map (fun s => seenQ q loose mods (Xf q) (ab s)) = some (openGood q loose) := by
  subst hq
  exact seen9 e1 e2 e3 e4 e5 e6 e7 e8 e9
end LV
namespace LV
open PySem PySem.W PyProof.Rows HeadRun
/-- place by place: the table's object, an empty one of no class, else the boot's, else nothing told -/
def lay : List (Nat × Obj) → List Nat → List Obj → Nat → Nat → List (Option Obj)
  | _, _, _, 0, _ => []
  | K, Z, B, m + 1, i => match K with
    | [] => match Z with
      | [] => B.head? :: frNat (i + 1) fun i => lay [] [] B.tail m i
      | z :: Z => match Nat.beq z i with
        | true => some ⟨.none, none, .fields #[], #[]⟩ :: frNat (i + 1) fun i => lay [] Z B.tail m i
        | false => B.head? :: frNat (i + 1) fun i => lay [] (z :: Z) B.tail m i
    | (a, o) :: r => match Nat.beq a i with
      | true => some o :: frNat (i + 1) fun i => lay r Z B.tail m i
      | false => match Z with
        | [] => B.head? :: frNat (i + 1) fun i => lay ((a, o) :: r) [] B.tail m i
        | z :: Z => match Nat.beq z i with
          | true => some ⟨.none, none, .fields #[], #[]⟩ :: frNat (i + 1) fun i => lay ((a, o) :: r) Z B.tail m i
          | false => B.head? :: frNat (i + 1) fun i => lay ((a, o) :: r) (z :: Z) B.tail m i
/-- what stands at the told places -/
def pick (t : Nat → Obj) : List (Option Obj) → Nat → List (Option Obj)
  | [], _ => []
  | some _ :: r, i => some (t i) :: frNat (i + 1) fun i => pick t r i
  | none :: r, i => none :: frNat (i + 1) fun i => pick t r i
/-- the told objects, and t's at the other places -/
def ov (t : Nat → Obj) : List (Option Obj) → Nat → List Obj
  | [], _ => []
  | some o :: r, i => o :: frNat (i + 1) fun i => ov t r i
  | none :: r, i => t i :: frNat (i + 1) fun i => ov t r i
theorem ov_pick {t : Nat → Obj} : ∀ {L : List (Option Obj)} {i : Nat}, pick t L i = L → ov t L i = (List.range' i L.length).map t
  | [], _, _ => rfl
  | none :: r, i, h => by
    simp only [pick, frNat_eq, List.cons.injEq, true_and] at h
    simp only [ov, frNat_eq, List.length_cons, List.range'_succ, List.map_cons, ov_pick h]
  | some o :: r, i, h => by
    simp only [pick, frNat_eq, List.cons.injEq, Option.some.injEq] at h
    simp only [ov, frNat_eq, List.length_cons, List.range'_succ, List.map_cons, ov_pick h.2, h.1]
abbrev atT (s : SharedT) : Nat → Obj := fun a => (s.tree.get a).getD default
/-- the end of the top: a heap of this kind -/
def shOf (L : List (Option Obj)) (life : Life) (gens : Array GenState) (t : Nat → Obj) (d : Drawn) (k : Nat) (os : OsState) : Shared := ⟨⟨(ov t L 0).toArray, life⟩, gens, d, k, os⟩
theorem end_abs {o : Option SharedT} {L : List (Option Obj)} {N : Nat} {life : Life} {gens : Array GenState} (hl : L.length = N)
    (h : o.map (fun s => (s.n, s.life, s.gens, pick (atT s) L 0)) = some (N, life, gens, L)) :
    ∃ s, o = some s ∧ s.abs = shOf L life gens (atT s) s.drawn s.toks s.os := by
  cases o with
  | none => cases h
  | some s =>
    refine ⟨s, rfl, ?_⟩
    injection h with h
    injection h with h1 h
    injection h with h2 h
    injection h with h3 h4
    unfold shOf SharedT.abs absHeap BT.list
    rw [ov_pick h4, hl, h1, h2, h3, List.range_eq_range']
theorem end_look {o : Option SharedT} {L : List (Option Obj)} {N : Nat} {life : Life} {gens : Array GenState} (hl : L.length = N)
    (h : o.map (fun s => (s.n, s.life, s.gens, pick (atT s) L 0)) = some (N, life, gens, L)) {α : Type} {f : Shared → α} {a : α}
    (H : ∀ t d k os, f (shOf L life gens t d k os) = a) : o.map (fun s => f s.abs) = some a := by
  obtain ⟨s, rfl, e⟩ := end_abs hl h
  show some (f s.abs) = some a
  rw [e, H]
/-- the objects at rising places are told -/
def okA : List (Option Obj) → List Nat → Nat → Bool
  | [], as, _ => match as with
    | [] => true
    | _ :: _ => false
  | x :: L, as, i => match as with
    | [] => true
    | a :: r => match Nat.beq a i with
      | true => match x with
        | none => false
        | some _ => frNat (i + 1) fun i => okA L r i
      | false => frNat (i + 1) fun i => okA L (a :: r) i
def toldL : List (Option Obj) → List Nat → Nat → List (Option Obj)
  | [], _, _ => []
  | x :: L, as, i => match as with
    | [] => []
    | a :: r => match Nat.beq a i with
      | true => match x with
        | none => []
        | some o => alive o :: frNat (i + 1) fun i => toldL L r i
      | false => frNat (i + 1) fun i => toldL L (a :: r) i
theorem told_ok {t : Nat → Obj} : ∀ {L : List (Option Obj)} {as : List Nat} {i : Nat}, okA L as i = true → pick t L i = L → (∀ a ∈ as, a < i + L.length) ∧ as.map (fun a => alive (t a)) = toldL L as i
  | [], [], _, _, _ => ⟨(fun _ h => (nomatch h)), rfl⟩
  | [], _ :: _, _, h, _ => nomatch h
  | x :: L, [], _, _, _ => ⟨(fun _ h => (nomatch h)), rfl⟩
  | x :: L, a :: r, i, h, hp => by
    have hp' : pick t L (i + 1) = L ∧ ∀ o, x = some o → t i = o := by
      cases x with
      | none =>
        simp only [pick, frNat_eq, List.cons.injEq, true_and] at hp
        exact ⟨hp, fun _ z => nomatch z⟩
      | some o =>
        simp only [pick, frNat_eq, List.cons.injEq, Option.some.injEq] at hp
        exact ⟨hp.2, fun _ z => by cases z; exact hp.1⟩
    obtain ⟨hq, ho⟩ := hp'
    cases e : Nat.beq a i with
    | true =>
      have ai : a = i := Nat.eq_of_beq_eq_true e
      subst ai
      cases x with
      | none => simp only [okA, e] at h; exact nomatch h
      | some o =>
        simp only [okA, e, frNat_eq] at h
        obtain ⟨h1, h2⟩ := told_ok h hq
        refine ⟨fun b hb => ?_, ?_⟩
        · rcases List.mem_cons.mp hb with rfl | hb
          · rw [List.length_cons]; omega
          · have := h1 b hb; rw [List.length_cons]; omega
        · simp only [toldL, e, frNat_eq, List.map_cons, h2, ho o rfl]
    | false =>
      simp only [okA, e, frNat_eq] at h
      obtain ⟨h1, h2⟩ := told_ok h hq
      refine ⟨fun b hb => ?_, ?_⟩
      · have := h1 b hb; rw [List.length_cons]; omega
      · simp only [toldL, e, frNat_eq]
        exact h2
theorem getT_at {s : SharedT} {a : Nat} (h : a < s.n) : getT s a = alive (atT s a) := by
  unfold getT
  rw [show Nat.blt a s.n = true from Nat.ble_eq_true_of_le h]
  show (match s.tree.get a with
    | some o => alive o
    | none => alive default) = alive ((s.tree.get a).getD default)
  cases s.tree.get a <;> rfl
theorem end_objs {o : Option SharedT} {L : List (Option Obj)} {N : Nat} {life : Life} {gens : Array GenState} (hl : L.length = N)
    (h : o.map (fun s => (s.n, s.life, s.gens, pick (atT s) L 0)) = some (N, life, gens, L)) {as : List Nat} {a : List (Option Obj)}
    (hk : okA L as 0 = true) (H : toldL L as 0 = a) : o.map (fun s => as.map (getT s)) = some a := by
  cases o with
  | none => cases h
  | some s =>
    injection h with h
    injection h with h1 h
    injection h with h2 h
    injection h with h3 h4
    obtain ⟨t1, t2⟩ := told_ok hk h4
    show some (as.map (getT s)) = some a
    rw [← H, ← t2]
    refine congrArg some (List.map_congr_left fun b hb => getT_at ?_)
    have := t1 b hb
    rw [h1]
    omega
end LV
namespace LV
open PySem PySem.W PyProof.Rows HeadRun
section
local macro_rules | `(tactic| first | $_ | $_) => `(tactic| assumption)
set_option maxHeartbeats 0 in
theorem hdry : PySem.Challenge.rw_lampthrong_k31_whole_null_space.row.Holds → PySem.Challenge.rw_lampthrong_k31_whole_null_space.row.Holds := by
  intro h
  k_headL
set_option maxHeartbeats 0 in
theorem hdra : OpenRow.Holds { PySem.Challenge.rw_lampthrong_k31_whole_null_space.row with name := "zz" } → OpenRow.Holds { PySem.Challenge.rw_lampthrong_k31_whole_null_space.row with name := "zz" } := by
  intro h
  k_headL
end
end LV
namespace LV
open PySem PySem.W PyProof.Rows HeadRun
noncomputable abbrev hdQ : Program := LV.hdry.view_1
abbrev hdL : List PySem.Str := []
abbrev hdF (q : Program) (s : Shared) : Bool := xlAt q [] s && recOk PySem.Challenge.rw_lampthrong_k31_whole_null_space.row.records s
abbrev hdA : List Nat := [
  2, 3, 15, 17, 18, 20, 21, 22, 24, 25, 27, 28, 29, 31, 32, 34, 35, 36, 39, 40, 41, 44, 45, 46, 48, 49, 51, 52, 53, 56, 57, 58, 61, 62, 63, 65, 66, 68, 69, 70,
  72, 73, 75, 76, 77, 79, 80, 82, 83, 84, 86, 87, 89, 90, 91, 93, 94, 96, 97, 98, 101, 102, 103, 105, 106, 108, 109, 110, 113, 114, 115, 117, 118, 120, 121, 122, 124, 125, 127, 128,
  129, 132, 133, 134, 137, 138, 139, 142, 143, 144, 146, 147, 149, 150, 151, 153, 154, 156, 157, 158, 160, 161, 163, 164, 165, 168, 169, 170, 173, 174, 175, 177, 178, 180, 181, 182, 185, 186, 187, 190,
  191]
abbrev hdZ : List Nat := [
  8, 16, 23, 30, 37, 42, 47, 54, 59, 64, 71, 78, 85, 92, 99, 104, 111, 116, 123, 130, 135, 140, 145, 152, 159, 166, 171, 176, 183, 188]
noncomputable def hdT (w : World) : List (Option Obj) := lay (LV.hdra.heap_1 w.params) hdZ (boot_heap w.params).objs.toList 192 0
theorem hd_n (w : World) : (hdT w).length = 192 := by kernel_rfl
def stR (w : World) (os : OsState) : Prop := (endF (stepQ (denQ tabQ) PySem.Challenge.rw_lampthrong_k31_whole_null_space.row.prog w) 1864 PySem.Challenge.rw_lampthrong_k31_whole_null_space.row.prog w os).map (fun s => (s.n, s.life, s.gens, pick (atT s) (hdT w) 0)) = some (192, (boot_heap w.params).life, #[], hdT w)
theorem hd_r (w : World) (os : OsState) : stR w os := by
  unfold stR
  kernel_rfl
theorem hd_e1l (w : World) : ∀ t d k o, looksF PySem.Challenge.rw_lampthrong_k31_whole_null_space.row.prog (boot_heap w.params) (shOf (hdT w) (boot_heap w.params).life #[] t d k o) = true := by
  intro t d k o
  kernel_rfl
theorem hd_e1 : ∀ (w : World) (os : OsState), (endF (stepQ (denQ tabQ) PySem.Challenge.rw_lampthrong_k31_whole_null_space.row.prog w) 1864 PySem.Challenge.rw_lampthrong_k31_whole_null_space.row.prog w os).map (fun s => looksF PySem.Challenge.rw_lampthrong_k31_whole_null_space.row.prog (boot_heap w.params) s.abs) = some (true) := fun w os => end_look (f := fun S => looksF PySem.Challenge.rw_lampthrong_k31_whole_null_space.row.prog (boot_heap w.params) S) (hd_n w) (hd_r w os) (hd_e1l w)
theorem hd_a1l (w : World) : ∀ t d k o, (seenQ hdQ hdL (importedModules PySem.Challenge.rw_lampthrong_k31_whole_null_space.row.prog.main.body) (hdF hdQ) (shOf (hdT w) (boot_heap w.params).life #[] t d k o)).1 = expectedOf hdQ := by
  intro t d k o
  kernel_rfl
theorem hd_a1 : ∀ (w : World) (os : OsState), (endF (stepQ (denQ tabQ) PySem.Challenge.rw_lampthrong_k31_whole_null_space.row.prog w) 1864 PySem.Challenge.rw_lampthrong_k31_whole_null_space.row.prog w os).map (fun s => (seenQ hdQ hdL (importedModules PySem.Challenge.rw_lampthrong_k31_whole_null_space.row.prog.main.body) (hdF hdQ) s.abs).1) = some (expectedOf hdQ) := fun w os => end_look (f := fun S => (seenQ hdQ hdL (importedModules PySem.Challenge.rw_lampthrong_k31_whole_null_space.row.prog.main.body) (hdF hdQ) S).1) (hd_n w) (hd_r w os) (hd_a1l w)
theorem hd_a2l (w : World) : ∀ t d k o, (seenQ hdQ hdL (importedModules PySem.Challenge.rw_lampthrong_k31_whole_null_space.row.prog.main.body) (hdF hdQ) (shOf (hdT w) (boot_heap w.params).life #[] t d k o)).2.1 = bltViewBooted := by
  intro t d k o
  kernel_rfl
theorem hd_a2 : ∀ (w : World) (os : OsState), (endF (stepQ (denQ tabQ) PySem.Challenge.rw_lampthrong_k31_whole_null_space.row.prog w) 1864 PySem.Challenge.rw_lampthrong_k31_whole_null_space.row.prog w os).map (fun s => (seenQ hdQ hdL (importedModules PySem.Challenge.rw_lampthrong_k31_whole_null_space.row.prog.main.body) (hdF hdQ) s.abs).2.1) = some (bltViewBooted) := fun w os => end_look (f := fun S => (seenQ hdQ hdL (importedModules PySem.Challenge.rw_lampthrong_k31_whole_null_space.row.prog.main.body) (hdF hdQ) S).2.1) (hd_n w) (hd_r w os) (hd_a2l w)
theorem hd_a3l (w : World) : ∀ t d k o, (seenQ hdQ hdL (importedModules PySem.Challenge.rw_lampthrong_k31_whole_null_space.row.prog.main.body) (hdF hdQ) (shOf (hdT w) (boot_heap w.params).life #[] t d k o)).2.2.1 = true := by
  intro t d k o
  kernel_rfl
theorem hd_a3 : ∀ (w : World) (os : OsState), (endF (stepQ (denQ tabQ) PySem.Challenge.rw_lampthrong_k31_whole_null_space.row.prog w) 1864 PySem.Challenge.rw_lampthrong_k31_whole_null_space.row.prog w os).map (fun s => (seenQ hdQ hdL (importedModules PySem.Challenge.rw_lampthrong_k31_whole_null_space.row.prog.main.body) (hdF hdQ) s.abs).2.2.1) = some (true) := fun w os => end_look (f := fun S => (seenQ hdQ hdL (importedModules PySem.Challenge.rw_lampthrong_k31_whole_null_space.row.prog.main.body) (hdF hdQ) S).2.2.1) (hd_n w) (hd_r w os) (hd_a3l w)
theorem hd_a4l (w : World) : ∀ t d k o, (seenQ hdQ hdL (importedModules PySem.Challenge.rw_lampthrong_k31_whole_null_space.row.prog.main.body) (hdF hdQ) (shOf (hdT w) (boot_heap w.params).life #[] t d k o)).2.2.2.1 = true := by
  intro t d k o
  kernel_rfl
theorem hd_a4 : ∀ (w : World) (os : OsState), (endF (stepQ (denQ tabQ) PySem.Challenge.rw_lampthrong_k31_whole_null_space.row.prog w) 1864 PySem.Challenge.rw_lampthrong_k31_whole_null_space.row.prog w os).map (fun s => (seenQ hdQ hdL (importedModules PySem.Challenge.rw_lampthrong_k31_whole_null_space.row.prog.main.body) (hdF hdQ) s.abs).2.2.2.1) = some (true) := fun w os => end_look (f := fun S => (seenQ hdQ hdL (importedModules PySem.Challenge.rw_lampthrong_k31_whole_null_space.row.prog.main.body) (hdF hdQ) S).2.2.2.1) (hd_n w) (hd_r w os) (hd_a4l w)
theorem hd_a5l (w : World) : ∀ t d k o, (seenQ hdQ hdL (importedModules PySem.Challenge.rw_lampthrong_k31_whole_null_space.row.prog.main.body) (hdF hdQ) (shOf (hdT w) (boot_heap w.params).life #[] t d k o)).2.2.2.2.1 = pinGoodD (drecsOf hdQ) := by
  intro t d k o
  kernel_rfl
theorem hd_a5 : ∀ (w : World) (os : OsState), (endF (stepQ (denQ tabQ) PySem.Challenge.rw_lampthrong_k31_whole_null_space.row.prog w) 1864 PySem.Challenge.rw_lampthrong_k31_whole_null_space.row.prog w os).map (fun s => (seenQ hdQ hdL (importedModules PySem.Challenge.rw_lampthrong_k31_whole_null_space.row.prog.main.body) (hdF hdQ) s.abs).2.2.2.2.1) = some (pinGoodD (drecsOf hdQ)) := fun w os => end_look (f := fun S => (seenQ hdQ hdL (importedModules PySem.Challenge.rw_lampthrong_k31_whole_null_space.row.prog.main.body) (hdF hdQ) S).2.2.2.2.1) (hd_n w) (hd_r w os) (hd_a5l w)
theorem hd_a6l (w : World) : ∀ t d k o, (seenQ hdQ hdL (importedModules PySem.Challenge.rw_lampthrong_k31_whole_null_space.row.prog.main.body) (hdF hdQ) (shOf (hdT w) (boot_heap w.params).life #[] t d k o)).2.2.2.2.2.1 = plainGoodE hdQ (looseW hdQ hdL) := by
  intro t d k o
  kernel_rfl
theorem hd_a6 : ∀ (w : World) (os : OsState), (endF (stepQ (denQ tabQ) PySem.Challenge.rw_lampthrong_k31_whole_null_space.row.prog w) 1864 PySem.Challenge.rw_lampthrong_k31_whole_null_space.row.prog w os).map (fun s => (seenQ hdQ hdL (importedModules PySem.Challenge.rw_lampthrong_k31_whole_null_space.row.prog.main.body) (hdF hdQ) s.abs).2.2.2.2.2.1) = some (plainGoodE hdQ (looseW hdQ hdL)) := fun w os => end_look (f := fun S => (seenQ hdQ hdL (importedModules PySem.Challenge.rw_lampthrong_k31_whole_null_space.row.prog.main.body) (hdF hdQ) S).2.2.2.2.2.1) (hd_n w) (hd_r w os) (hd_a6l w)
theorem hd_a7l (w : World) : ∀ t d k o, (seenQ hdQ hdL (importedModules PySem.Challenge.rw_lampthrong_k31_whole_null_space.row.prog.main.body) (hdF hdQ) (shOf (hdT w) (boot_heap w.params).life #[] t d k o)).2.2.2.2.2.2.1 = plainGoodD hdQ hdL := by
  intro t d k o
  kernel_rfl
theorem hd_a7 : ∀ (w : World) (os : OsState), (endF (stepQ (denQ tabQ) PySem.Challenge.rw_lampthrong_k31_whole_null_space.row.prog w) 1864 PySem.Challenge.rw_lampthrong_k31_whole_null_space.row.prog w os).map (fun s => (seenQ hdQ hdL (importedModules PySem.Challenge.rw_lampthrong_k31_whole_null_space.row.prog.main.body) (hdF hdQ) s.abs).2.2.2.2.2.2.1) = some (plainGoodD hdQ hdL) := fun w os => end_look (f := fun S => (seenQ hdQ hdL (importedModules PySem.Challenge.rw_lampthrong_k31_whole_null_space.row.prog.main.body) (hdF hdQ) S).2.2.2.2.2.2.1) (hd_n w) (hd_r w os) (hd_a7l w)
theorem hd_a8l (w : World) : ∀ t d k o, (seenQ hdQ hdL (importedModules PySem.Challenge.rw_lampthrong_k31_whole_null_space.row.prog.main.body) (hdF hdQ) (shOf (hdT w) (boot_heap w.params).life #[] t d k o)).2.2.2.2.2.2.2.1 = wideGood hdQ := by
  intro t d k o
  kernel_rfl
theorem hd_a8 : ∀ (w : World) (os : OsState), (endF (stepQ (denQ tabQ) PySem.Challenge.rw_lampthrong_k31_whole_null_space.row.prog w) 1864 PySem.Challenge.rw_lampthrong_k31_whole_null_space.row.prog w os).map (fun s => (seenQ hdQ hdL (importedModules PySem.Challenge.rw_lampthrong_k31_whole_null_space.row.prog.main.body) (hdF hdQ) s.abs).2.2.2.2.2.2.2.1) = some (wideGood hdQ) := fun w os => end_look (f := fun S => (seenQ hdQ hdL (importedModules PySem.Challenge.rw_lampthrong_k31_whole_null_space.row.prog.main.body) (hdF hdQ) S).2.2.2.2.2.2.2.1) (hd_n w) (hd_r w os) (hd_a8l w)
theorem hd_a9l (w : World) : ∀ t d k o, (seenQ hdQ hdL (importedModules PySem.Challenge.rw_lampthrong_k31_whole_null_space.row.prog.main.body) (hdF hdQ) (shOf (hdT w) (boot_heap w.params).life #[] t d k o)).2.2.2.2.2.2.2.2 = clsGoodW hdQ hdL := by
  intro t d k o
  kernel_rfl
theorem hd_a9 : ∀ (w : World) (os : OsState), (endF (stepQ (denQ tabQ) PySem.Challenge.rw_lampthrong_k31_whole_null_space.row.prog w) 1864 PySem.Challenge.rw_lampthrong_k31_whole_null_space.row.prog w os).map (fun s => (seenQ hdQ hdL (importedModules PySem.Challenge.rw_lampthrong_k31_whole_null_space.row.prog.main.body) (hdF hdQ) s.abs).2.2.2.2.2.2.2.2) = some (clsGoodW hdQ hdL) := fun w os => end_look (f := fun S => (seenQ hdQ hdL (importedModules PySem.Challenge.rw_lampthrong_k31_whole_null_space.row.prog.main.body) (hdF hdQ) S).2.2.2.2.2.2.2.2) (hd_n w) (hd_r w os) (hd_a9l w)
theorem hd_e3k (w : World) : okA (hdT w) hdA 0 = true := by kernel_rfl
theorem hd_e3l (w : World) : toldL (hdT w) hdA 0 = (LV.hdry.heap_1 w.params).map fun x => some x.2 := by kernel_rfl
theorem hd_e3 : ∀ (w : World) (os : OsState), (endF (stepQ (denQ tabQ) PySem.Challenge.rw_lampthrong_k31_whole_null_space.row.prog w) 1864 PySem.Challenge.rw_lampthrong_k31_whole_null_space.row.prog w os).map (fun s => hdA.map (HeadRun.getT s)) = some ((LV.hdry.heap_1 w.params).map fun x => some x.2) := fun w os => end_objs (hd_n w) (hd_r w os) (hd_e3k w) (hd_e3l w)
end LV
namespace LV
open PySem PySem.Spec L2
inductive Ty where | non | bl | int | str | tup | lst | dct
  deriving DecidableEq
def Ty.nm : Ty → String
  | .non => "NoneType" | .bl => "bool" | .int => "int" | .str => "str" | .tup => "tuple" | .lst => "list" | .dct => "dict"
def isaT : Ty → Ty → Bool
  | .bl, .int => true
  | a, b => a = b
theorem kitT : ∀ a b : Ty, kitB a.nm b.nm = some (isaT a b) := by
  intro a b
  cases a <;> cases b <;> decide +kernel
def D.ty : D → Option Ty
  | .non => some .non | .bl _ => some .bl | .int _ => some .int | .str _ => some .str | .tup _ => some .tup | .lst _ => some .lst | .scr _ => some .lst | .dct _ _ => none | .ins _ _ _ => none | .cls _ => none | .ptr _ => none | .exn _ _ _ => none | .tpn _ => some .tup
theorem tyx_seqT {K : PySem.W.Frag} {H : Hp} {a : Addr} {xs : List V} (h : SqT K H a xs) : TyX K H (.ref a) (.type "tuple") := by
  rcases h with (h | ⟨o, h⟩) | ⟨o, its, n, h, hc, _⟩
  · exact .base (.tup h)
  · exact .fTuple h
  · exact .kTuple h hc
theorem tyx_seqL {K : PySem.W.Frag} {H : Hp} {a : Addr} {xs : List V} (h : SqL K H a xs) : TyX K H (.ref a) (.type "list") := by
  rcases h with (h | ⟨o, h⟩) | ⟨o, its, n, h, hc, _⟩
  · exact .base (.lst h)
  · exact .base (.frz h)
  · exact .kList h hc
theorem Vw.tyx {M : Md} {F H : Hp} (sm : Same F H) {v : V} {d : D} {t : Ty} (h : Vw M F H v d) (e : d.ty = some t) : TyX M.K H v (.type t.nm) := by
  cases d with
  | non => cases h; cases e; exact .base .non
  | bl b => cases h; cases e; exact .base (.bl _)
  | int b => cases h; cases e; exact .base (.int _)
  | str b => cases h; cases e; exact .base (.str _)
  | tup ds => obtain ⟨a, xs, rfl, h1, _⟩ := h; cases e; exact tyx_seqT (Same.sqT sm h1)
  | lst ds => obtain ⟨a, xs, rfl, h1, _⟩ := h; cases e; exact .base (.lst h1)
  | scr ns => obtain ⟨a, rfl, h1⟩ := h; cases e; exact tyx_seqL h1
  | dct _ _ => cases e
  | ins _ _ _ => cases e
  | cls _ => cases e
  | ptr _ => cases e
  | exn _ _ _ => cases e
  | tpn ds => obtain ⟨a, o, xs, rfl, h1, _⟩ := h; cases e; exact tyx_seqT (.inl (.inr ⟨o, sm _ _ h1⟩))
section
variable {X : Cx} {c : Ct} {W : WX} {e : Expr} {es : List Expr} {w : EW} {p p2 pos : Pos}
def wIsi (T : Ty) (w : EW) : EW := fun env Q E => wFz w env (fun r e => ∃ d t, look e r = some d ∧ d.ty = some t ∧ Q (.fz (.bl (isaT t T))) e) E
theorem Mono.isi {T : Ty} (m : Mono w) : Mono (wIsi T w) := ⟨fun hQ hE h => m.fz.mo (fun r e ⟨d, t, a, b, q⟩ => ⟨d, t, a, b, hQ _ _ q⟩) hE h⟩
theorem se_isi {x : Str} {T : Ty} (h : SE X c W e w) (hg : Gl X "isinstance") (hm : X.mg "isinstance" = none) (hgx : Gl X x) (hmx : X.mg x = none) (hv : bootBuiltins x = some (.type T.nm)) (hn : x ≠ "__name__" := by decide) (hdx : (x == ("__debug__" : Str)) = false := by decide)
    (hb : bootBuiltins "isinstance" = some (.builtin "isinstance") := by with_unfolding_all rfl)
    (hs1 : starEach [e, .Name x p2] X.env = (false, eval e X.env) :: starEach [.Name x p2] X.env := by rfl) (hs2 : starEach [.Name x p2] X.env = (false, eval (.Name x p2) X.env) :: starEach [] X.env := by rfl) (hpl : (backTo pos (starEach [.Name x p2] X.env)).any (·.1) = false := by rfl) :
    SE X c W (.Call (.Name "isinstance" p) [e, .Name x p2] [] pos) (wIsi T w) := by
  refine ⟨PE.imp (pe_callB call_isi hg hm hb (pa_cons h.pe (pa_cons (pe_bltn hgx hmx hv (v := .ty T.nm) rfl hn hdx) pa_nil hs2) hs1) (by decide) (by decide) hs1 hpl) fun σ H Q q => ?_, .isi h.mo⟩
  obtain ⟨F, env, R, q⟩ := q
  refine opd h.mo R q fun r e' v F' H' R' ev ok ⟨d, t, l, ht, z⟩ => ?_
  exact ⟨v, .ty T.nm, .type t.nm, .type T.nm, isaT t T, rfl, .ty _, (ok.vw R' l).tyx R'.sub ht, kit_ty (kitT _ _), z (.bl _) F' H' R' ev (.bl _)⟩
def wRev (i : Nat) : SW := fun K env => ∃ ds, env[i]? = some (some (.ow (.lst ds))) ∧ K.nx (env.set i (some (.ow (.lst ds.reverse))))
end
end LV
namespace LV
open PySem PySem.Spec L2
abbrev rowD (r : List Int) : D := .tup (r.map D.int)
end LV
set_option maxHeartbeats 4000000
namespace LV
open PySem PySem.Spec PyProof.Rows L2
/-- t * 1, t not empty: t itself -/
theorem tuple_mul1 (l : Addr) (items : Array Value) (n : Nat) (dd : Option Addr) (sl : Array (Option Value)) (u : Tok) :
    Meets (Builtin.«tuple.__mul__» ⟨[.ref l, .int 1 u], []⟩) (fun _ R s => s.heap.get? l = some { cls := .type "tuple", dict := dd, data := .seq items n, slots := sl } ∧ R (.ok (.ret (Value.ref l))) s) :=
  .of_wp fun prog w A R s h => by
    obtain ⟨hp, g, d, tk, os⟩ := s
    obtain ⟨hl, h⟩ := h
    have f1 := AutoSeq1.idx_int
    wp_walk using wpAny_loadPart' hl
    exact ⟨_, rfl, h⟩
/-- t * int by values: 1 gives t itself -/
def rRep1 (K : PySem.W.Frag) : R2 := fun x y H Q => ∃ l xs, x = .ref l ∧ y = .int 1 ∧ SqT K H l xs ∧ Q (.ref l) H
theorem op_rep1 {X : Cx} : OpR X (binaryOp .Mult) (rRep1 X.K) := by
  intro pins s σ H x y v u Q I rx ry h
  obtain ⟨l, xs, rfl, rfl, hT, q⟩ := h
  cases rx
  obtain ⟨t, rfl⟩ := ry
  obtain ⟨its, r, ⟨⟨cls, dd, data, sl⟩, ho, hc, n, hd⟩, hs⟩ := I.tuple hT
  simp only at hc hd
  subst hc hd
  exact wpAny_binaryOp_repeat_ref (T := "tuple") (U := "int") (by decide) ⟨_, ho, rfl⟩ (fun s' => typeIs_int s' 1 t) noFill_tuple_mul F.fills_int_mul F.slot_int_rmul repeat_tuple F.slot_int_index.lookup
    (call_meets F.slot_int_rmul (typeIs_int s 1 t) F.entry_int_rmul (F.args_int_rmul_2 _ _) (int_rmul_tuple 1 t l its.toArray n dd sl)
      ⟨ho, rfl, ⟨_, ho, rfl⟩, call_meets F.slot_tuple_mul ⟨_, ho, rfl⟩ F.entry_tuple_mul (F.args_tuple_mul_2 _ _) (tuple_mul1 l its.toArray n dd sl t) ⟨ho, ⟨.ref l, H, I, rfl, q⟩⟩⟩)
end LV
namespace LV
open PySem PySem.Spec L2
def gMulT : G2 := fun a b Q => (∃ xs, a = .tup xs ∧ b = .int 1 ∧ Q (.fz (.tup xs))) ∨ gMul a b Q
theorem vr_mulT {X : Cx} : VR2 X (binaryOp .Mult) gMulT where
  ok := by
    intro pins s σ H x y v u Q I rx ry ⟨F, da, db, sm, vx, vy, q⟩
    rcases q with ⟨xs, rfl, rfl, q⟩ | q
    · obtain ⟨a, vs, rfl, h1, h2⟩ := vx
      cases vy
      exact op_rep1 pins s σ H _ _ v u Q I rx ry ⟨a, vs, rfl, rfl, Same.sqT sm h1, q.here sm (.tup h1 h2)⟩
    · exact vr_mul.ok pins s σ H x y v u Q I rx ry ⟨F, da, db, sm, vx, vy, q⟩
  mo := ⟨fun h q => q.elim (fun ⟨xs, a, b, q⟩ => .inl ⟨xs, a, b, h _ q⟩) fun q => .inr (Mono2.mul.mo h q)⟩
theorem gMulT_ii {i j : Int} {Q : Rv → Prop} : gMulT (.int i) (.int j) Q = (CMulX i j ∧ Q (.fz (.int (i * j)))) := propext ⟨fun h => h.elim (fun ⟨_, a, _⟩ => (nomatch a)) id, fun h => .inr h⟩
theorem gMulT_li {i : Int} {xs : List D} {Q : Rv → Prop} : gMulT (.lst xs) (.int i) Q = (-(2 ^ 63) ≤ i ∧ i < 2 ^ 63 ∧ xs.length * i.toNat ≤ sizeLine ∧ Q (.ow (.lst (List.replicate i.toNat xs).flatten))) := propext ⟨fun h => h.elim (fun ⟨_, a, _⟩ => (nomatch a)) id, fun h => .inr h⟩
end LV
set_option maxHeartbeats 400000
namespace LV
open PySem PySem.Spec L2
end LV
set_option maxHeartbeats 1000000
namespace LV
open PySem PySem.Spec L2
theorem tk0 {X : Cx} : Takes X W0 := fun _ _ ⟨_, _, _, _, _, _, _, _, _, _, _, _, _, _, _, _, h⟩ => h.elim
section
variable {P : Program} {w : World} {K : PySem.W.Frag} {mg : Str → Option Value} {base : Heap} {N : List Str} {qual : Str} {scope : Scope} {f : Addr} {cd : Value} {A : Around} {outer : List Env} {s : Shared} {H : Hp} {E : XK}
theorem tkF : Takes (cxOf (L2.CX P w) P w K mg base N qual scope f cd A outer s H E) (fun cls d _ H => E cls d H) := takes_of rfl rfl rfl rfl
theorem poF : PassesOwn (model (cxOf (L2.CX P w) P w K mg base N qual scope f cd A outer s H E).prog (cxOf (L2.CX P w) P w K mg base N qual scope f cd A outer s H E).w) (cxOf (L2.CX P w) P w K mg base N qual scope f cd A outer s H E).A
    (cxOf (L2.CX P w) P w K mg base N qual scope f cd A outer s H E).env (cxOf (L2.CX P w) P w K mg base N qual scope f cd A outer s H E).xe := passes_of rfl
end
/-- a def of the text as it stands in the module -/
structure DefAt (K : PySem.W.Frag) (mg : Str → Option Value) (x : Str) (st : Stmt) (ps : List Str) (f : Addr) (fd : FuncData) : Prop where
  fn : Fun K x x st f fd
  at_ : mg x = some (.ref f)
  bd : Binds K fd ps []
/-- the def named x keeps S -/
structure Ok (P : Program) (w : World) (K : PySem.W.Frag) (mg : Str → Option Value) (base : Heap) (x : Str) (ps : List Str) (k : Nat) (S : FSpec) : Prop where
  ex : ∃ f fd, FnG P w K mg base k f fd ps (toSp ⟨K, mg, w⟩ S) ∧ mg x = some (.ref f) ∧ PySem.W.keepIn K (.ref f) = true ∧ Binds K fd ps []
theorem ok_mk {P : Program} {w : World} {K : PySem.W.Frag} {mg : Str → Option Value} {base : Heap} {x : Str} {st : Stmt} {f : Addr} {fd : FuncData} {N ps : List Str} {k : Nat} {S : FSpec} {b : SW} (pn : List Nat) (D : DefAt K mg x st ps f fd) (Sc : FnScope N ps (defScope st)) (kp : Keeps S pn ps.length N.length b)
    (hbody : ∀ (cdv : Value) (A : Around) (outer : List Env) (s : Shared) (H : Hp) (E : XK), RoomG k (A.deeper (PyProof.Rows.envOfC x (defScope st) s.heap.objs.size f cdv)) →
      ∀ (σ₀ : L2.St) (h₀ : Hp) (xc : Addr → Value → Option Addr → Prop) (hN : Hp), SSs (cxOf (L2.CX P w) P w K mg base N x (defScope st) f cdv A outer s H E) ⟨pn, σ₀, h₀, xc, hN⟩ (fun cls d _ H => E cls d H) (defBody st) b) :
    Ok P w K mg base x ps (k + 1) S :=
  ⟨f, fd, fn_lvG pn D.fn Sc kp fun cdv A outer s H E hr c hc => match c, hc with
    | ⟨_, σ₀, h₀, xc, hN⟩, rfl => hbody cdv A outer s H E hr σ₀ h₀ xc hN, D.at_, D.fn.kp, D.bd⟩
section
variable {X : Cx} {c : Ct} {W : WX} {e : Expr} {es : List Expr} {w : EW} {wl : AW} {pos p : Pos} {x : Str} {k j : Nat} {ps : List Str} {S : FSpec}
theorem se_callO (O : Ok X.prog X.w X.K X.mg X.base x ps k S) (mS : MonoF S) (tk : Takes X W) (hr : RoomG j X.A) (hg : Gl X x) (ha : SA X c W (e :: es) wl) (hk : k ≤ j := by decide) (hdb : (x == ("__debug__" : Str)) = false := by decide)
    (he : starEach (e :: es) X.env = (false, eval e X.env) :: starEach es X.env := by rfl) (hpl : (backTo pos (starEach es X.env)).any (·.1) = false := by rfl) :
    SE X c W (.Call (.Name x p) (e :: es) [] pos) (wCall S wl) :=
  let ⟨_, _, F, hm, hkp, hb⟩ := O.ex
  ⟨(se_callG F mS tk (RoomG.mono hr hk) hg hm hkp hb ha hdb he hpl).pe, .call mS ha.mo⟩
/-- an argument handed over as data: a slot's object is frozen -/
def wFrz (w : EW) : EW := fun env Q E => wFz w env (fun r e => ∃ d e2, frz1 e r = some (d, e2) ∧ Q (.fz d) e2) E
theorem Mono.frz (m : Mono w) : Mono (wFrz w) := ⟨fun hQ hE h => m.fz.mo (fun r e ⟨d, e2, a, q⟩ => ⟨d, e2, a, hQ _ _ q⟩) hE h⟩
theorem se_frz (h : SE X c W e w) : SE X c W e (wFrz w) := by
  refine ⟨PE.imp h.pe fun σ H Q q => ?_, .frz h.mo⟩
  obtain ⟨F, env, R, q⟩ := q
  refine opd h.mo R q fun r e' v F' H' R' ev ok ⟨d, e2, a, z⟩ => ?_
  obtain ⟨F2, R2, ev2, rv⟩ := frz1_ok R' ok a
  exact z v F2 H' R2 (ev.trans ev2) rv
/-- -e of an int -/
def wNeg (w : EW) : EW := fun env Q E => w env (fun r e => ∃ i, r = .fz (.int i) ∧ Q (.fz (.int (-i))) e) E
theorem Mono.neg (m : Mono w) : Mono (wNeg w) := ⟨fun hQ hE h => m.mo (fun r e ⟨i, a, q⟩ => ⟨i, a, hQ _ _ q⟩) hE h⟩
theorem se_neg (h : SE X c W e w) : SE X c W (.UnaryOp .USub e pos) (wNeg w) := by
  refine ⟨PE.imp (pe_un un_neg h.pe) fun σ H Q q => ?_, .neg h.mo⟩
  obtain ⟨F, env, R, q⟩ := q
  refine ⟨F, env, R, h.mo.mo (fun r e ⟨i, a, z⟩ => ?_) (fun _ _ z => z) q⟩
  subst a
  intro v F' H' R' ev ok
  cases ok
  exact ⟨i, rfl, z (.int (-i)) F' H' R' ev (.int _)⟩
end
end LV
namespace LV
open PySem PySem.Spec L2
theorem RoomG.u0 {k : Nat} {A : Around} (r : RoomG k A) : A.units < cLine := by have := r.rm.un; omega
theorem RoomG.u64 {k : Nat} {A : Around} (r : RoomG k A) : A.units + 64 < cLine := by have := r.rm.un; omega
theorem RoomG.u65 {k : Nat} {A : Around} (r : RoomG k A) : A.units + 65 < cLine := by have := r.rm.un; omega
/-- an own exception class of one field, with all that its use asks -/
structure XCls (P : Program) (w : World) (K : PySem.W.Frag) (mg : Str → Option Value) (base : Heap) (Cn f : Str) : Prop where
  ex : ∃ (C fI : Addr) (fd : FuncData) (p : Str), mg Cn = some (.ref C) ∧ (OexC K C ∧ XfC K C ∧ PySem.W.findIn K (.ref C) f = some none) ∧ PySem.W.findIn K (.ref C) "__init__" = some (some (.ref fI)) ∧ PySem.W.typeIn K (.ref fI) = some (.type "function") ∧
    FnOk P w K mg base (L2.CX P w) 1 fI fd ["self", p] (spX1 C f) ∧ Binds K fd ["self", p] []
theorem XCls.xc {P : Program} {w : World} {K : PySem.W.Frag} {mg : Str → Option Value} {base : Heap} {Cn f : Str} (T : XCls P w K mg base Cn f) : XC P w K mg base Cn f :=
  let ⟨C, fI, fd, p, h1, ⟨h2, _⟩, h3, h4, h5, h6⟩ := T.ex
  ⟨C, fI, fd, p, h1, h2, h3, h4, h5, h6⟩
section
variable {X : Cx} {c : Ct} {W : WX} {elt tgE iter : Expr} {ifs : List Expr} {scope : Scope} {own : List (Str × Nat)} {pos : Pos} {tg : Tg} {it : IW} {u : TW} {w : EW}
theorem se_lcV (hc : X.calm = true) (hN : X.N.Nodup) (ok : BlkOk X.N X.env.scope scope own) (hi : SI X c W tgE iter it) (hv : ∀ i ∈ own.map (·.2), i ∉ c.pn) (ht : ∀ i ∈ tg.slots, i ∈ own.map (·.2))
    (hg : ∀ (s : Shared) (H : Hp) (C : Addr) (cl : List (Str × Addr)) (fp : List Addr), SG (X.blk s H scope (compEnvC scope cl C X.env) fp) tgE tg)
    (hu : ∀ (s : Shared) (H : Hp) (C : Addr) (cl : List (Str × Addr)) (fp : List Addr), STs (X.blk s H scope (compEnvC scope cl C X.env) fp) c W0 ifs u)
    (he : ∀ (s : Shared) (H : Hp) (C : Addr) (cl : List (Str × Addr)) (fp : List Addr), SE (X.blk s H scope (compEnvC scope cl C X.env) fp) c W0 elt w)
    (hs : ∀ x, foldedSetIterable iter X.env x = pure x := by intro _; rfl) : SE X c W (.ListComp elt [⟨tgE, iter, ifs, 0⟩] scope pos) (wLc tg it u w (own.map (·.2))) :=
  se_lc hc hN hi ok hv ht (hu X.s_0 X.H_0 0 [] []).mo (he X.s_0 X.H_0 0 [] []).mo hg hu he hs
theorem ss_setLcV {i : Nat} {y : Str} {py spos : Pos} (hip : i ∉ c.pn) (hc : X.calm = true) (hN : X.N.Nodup) (hy : X.N[i]? = some y) (hyl : X.env.scope.names.lookup y = some .local) (ok : BlkOk X.N X.env.scope scope own)
    (hi : SI X c W tgE iter it) (hv : ∀ i ∈ own.map (·.2), i ∉ c.pn) (ht : ∀ i ∈ tg.slots, i ∈ own.map (·.2))
    (hg : ∀ (s : Shared) (H : Hp) (C : Addr) (cl : List (Str × Addr)) (fp : List Addr), SG (X.blk s H scope (compEnvC scope cl C X.env) fp) tgE tg)
    (hu : ∀ (s : Shared) (H : Hp) (C : Addr) (cl : List (Str × Addr)) (fp : List Addr), STs (X.blk s H scope (compEnvC scope cl C X.env) fp) c W0 ifs u)
    (he : ∀ (s : Shared) (H : Hp) (C : Addr) (cl : List (Str × Addr)) (fp : List Addr), SE (X.blk s H scope (compEnvC scope cl C X.env) fp) c W0 elt w)
    (hsw : swapsWith (.ListComp elt [⟨tgE, iter, ifs, 0⟩] scope pos) (some (.Name y py)) spos.line X.env = pure true := by rfl)
    (hs : ∀ x, foldedSetIterable iter X.env x = pure x := by intro _; rfl) : SS X c W (.Assign [.Name y py] (.ListComp elt [⟨tgE, iter, ifs, 0⟩] scope pos) spos) (wSet i (wLc tg it u w (own.map (·.2)))) :=
  ss_setLc hip hc hN hy hyl hsw hi ok hv ht (hu X.s_0 X.H_0 0 [] []).mo (he X.s_0 X.H_0 0 [] []).mo hg hu he hs
end
end LV
namespace LV
open PySem PySem.Spec L2
end LV
namespace LV
open PySem PySem.Spec L2
open PySem.W (KeepsBut AllAlike Sortable dataKind SortsAt EachIs KeyedOut dataLe sortingHeap copyHeap sorted_of_sort keyH_end sortVals keyedOut_each)
open PyProof.Rows (seqObj ksk_rest ksk_tree ksk_end ksk_fold)
end LV
namespace LV
open PySem PySem.Spec L2
/-- a def that takes any number of arguments behind the first ones, by its promise -/
structure FnV (P : Program) (w : World) (K : PySem.W.Frag) (mg : Str → Option Value) (base : Heap) (k : Nat) (f : Addr) (sp : Sp) : Prop where
  run : ∀ (A : Around) (outer : List Env) (s : Shared) (H : Hp) (us : List Value) (vs : List V) (Q : VK) (E : XK), RoomG k A → Env0 P w K mg base A outer s H → Vals vs us → sp vs H Q E → codeAny (model P w) A (.call (.ref f) ⟨us, []⟩) (CR (L2.CX P w) outer P w H s Q E) s
theorem FnV.mono {P : Program} {w : World} {K : PySem.W.Frag} {mg : Str → Option Value} {base : Heap} {j k : Nat} {f : Addr} {sp : Sp} (F : FnV P w K mg base j f sp) (h : j ≤ k) : FnV P w K mg base k f sp := ⟨fun A outer s H us vs Q E hr => F.run A outer s H us vs Q E (hr.mono h)⟩
end LV
namespace LV
open PySem PySem.Spec L2
open AutoSeq1 (wpAny_loadPart') in
theorem enumT_new (t : Addr) (its : Array Value) (n : Nat) (dct : Option Addr) (sl : Array (Option Value)) :
    Meets (Builtin.«enumerate.__new__» ⟨[.type "enumerate", .ref t], []⟩) (fun _ R z => z.heap.get? t = some { cls := .type "tuple", dict := dct, data := .seq its n, slots := sl } ∧
      R (.ok (.ret (.ref (z.heap.push { cls := .type "tuple_iterator", data := .fields #[.ref t, .int 0 0] }).objs.size)))
        { z with heap := (z.heap.push { cls := .type "tuple_iterator", data := .fields #[.ref t, .int 0 0] }).push { cls := .type "enumerate", data := .fields #[.none, .bool false, .ref z.heap.objs.size, rawInt 0, .none, .none] } }) :=
  .of_wp fun prog w A R z hz => by
    obtain ⟨hp, g, d, tk, os⟩ := z; obtain ⟨ht, hr⟩ := hz
    have hsubE := sub_enumerate
    have hT : Heap.IsTuple (Shared.heap ⟨hp, g, d, tk, os⟩) t its := ⟨_, ht, rfl, n, rfl⟩
    wp_walk using wpAny_loadPart' ht
    refine wpAny_stack_any fun fr => wpAny_pure ?_
    split
    · rename_i cc _ _ _ _ _
      cases (cc == Value.type "enumerate")
      · wp_walk using wpAny_loadPart' ht, wpAny_pyIter_tuple hT
        exact ⟨_, rfl, hr⟩
      · wp_walk using wpAny_loadPart' ht, wpAny_pyIter_tuple hT
        exact ⟨_, rfl, hr⟩
    · wp_walk using wpAny_loadPart' ht, wpAny_pyIter_tuple hT
      exact ⟨_, rfl, hr⟩
section
variable {prog : Program} {w : World} {A : Around} {E : Value → Shared → Prop} {s : Shared}
theorem call_enumT {t : Addr} {its : Array Value} {Q : Value → Shared → Prop} (hT : s.heap.IsTuple t its)
    (hq : ∀ h', IsEnum h' (s.heap.objs.size + 1) s.heap.objs.size 0 .none → h'.IsTupleIter s.heap.objs.size t 0 → (∀ b o, s.heap.get? b = some o → h'.get? b = some o) → Q (.ref (s.heap.objs.size + 1)) { s with heap := h' }) :
    wpAny (model prog w) A (call (.type "enumerate") [.ref t]) Q E s := by
  obtain ⟨⟨cl, dct, dt, sl⟩, ht, hc, n, hd⟩ := hT
  obtain rfl : cl = .type "tuple" := hc
  obtain rfl : dt = .seq its n := hd
  refine callType_new F.called_enumerate (by decide) (F.typeCall_enumerate_1 _) (F.newCall_enumerate_1 _) (fun ob => F.args_object_init_2 ob _) F.entry_enumerate_new (enumT_new t its n dct sl) ⟨ht, ?_⟩
  have hz : (s.heap.push { cls := .type "tuple_iterator", data := .fields #[.ref t, .int 0 0] }).objs.size = s.heap.objs.size + 1 := Heap.size_push ..
  show _ ∧ _
  rw [hz]
  have he := Heap.get?_push_size (s.heap.push { cls := .type "tuple_iterator", data := .fields #[.ref t, .int 0 0] }) (o := { cls := .type "enumerate", data := .fields #[.none, .bool false, .ref s.heap.objs.size, rawInt 0, .none, .none] }) rfl
  rw [hz] at he
  exact ⟨⟨_, he, rfl⟩, hq _ he ⟨_, Heap.get?_push_of_some _ (Heap.get?_push_size _ rfl), rfl, rfl⟩ fun b o x => Heap.get?_push_of_some _ (Heap.get?_push_of_some _ x)⟩
end
/-- the tuple at a, each item in a new pair -/
def IteT (K : PySem.W.Frag) (a : Addr) : It :=
  ⟨fun i H => ∃ (xs : List V) (x : V), SqT K H a xs ∧ xs[i]? = some x, fun i H v H' => ∃ T x, v = .ref T ∧ H T = none ∧ H' = upd H T (.tup [.int (i : Nat), x]) ∧ ∀ xs, SqT K H a xs → xs[i]? = some x, fun i H => ∃ xs : List V, SqT K H a xs ∧ xs.length ≤ i⟩
theorem turn_enumT {P : Program} {w : World} {K : PySem.W.Frag} {elts : List Expr} {kk : Nat} {tpos : Pos} (a e it : Addr) :
    Turn P w K (.Tuple elts kk tpos) (IteT K a) [e, it] e (fun i h => (∃ old, IsEnum h e it ((i : Nat) : Int) old) ∧ h.IsTupleIter it a i ∧ e ≠ it) where
  mem := List.mem_cons_self
  obj := fun i h ⟨⟨old, he⟩, ⟨o, ho, hc, hd⟩, _⟩ b hb => by
    rcases List.mem_cons.mp hb with z | z
    · rw [z]; exact ⟨_, he, fun v q => nomatch q⟩
    · rw [List.mem_singleton.mp z]; exact ⟨o, ho, fun v q => by rw [hd] at q; cases q⟩
  keep := fun i h h' ⟨⟨old, he⟩, hi, hne⟩ k => ⟨⟨old, k e List.mem_cons_self _ he⟩, hi.at fun o q => k it (List.mem_cons_of_mem _ List.mem_cons_self) o q, hne⟩
  item := by
    intro X hP hw hK hc i pins s σ H E I hf st hg
    subst hP hw hK
    obtain ⟨⟨old, he⟩, hit, hne⟩ := st
    obtain ⟨xs, x, hq, hx⟩ := hg
    obtain ⟨its, rv, p, hz⟩ := I.tuple hq
    obtain ⟨u, hu, ru⟩ := rv.get hx
    have hel : e < s.heap.objs.size := Heap.lt_size he
    have hil : it < s.heap.objs.size := by obtain ⟨_, q, _⟩ := hit; exact Heap.lt_size q
    have hap : a ≠ e ∧ a ≠ it := by
      obtain ⟨o1, h1, c1, _⟩ := p
      obtain ⟨o2, h2, c2, _⟩ := id hit
      refine ⟨fun z => ?_, fun z => ?_⟩
      · rw [z, he] at h1; cases h1; exact absurd (show Value.type "enumerate" = Value.type "tuple" from c1) (by decide)
      · rw [z, h2] at h1; cases h1; rw [c2] at c1; exact absurd c1 (by decide)
    have hli : i < its.toArray.size := by rw [List.size_toArray]; exact (List.getElem?_eq_some_iff.mp hu).1
    refine wpAny_pyNext_enum_itemD (Draws.tuple (A := X.A.in1) (I.ok.hd hc) it a hap.2 its.toArray) he ⟨hit, p⟩ hli hne (fun z => ?_) fun y h' tk hy ho ⟨hit', _⟩ hT hsz hk => ?_
    · rcases List.mem_cons.mp z with z | z
      · exact hne z
      · exact hap.1 (List.mem_singleton.mp z).symm
    have ey : y = u := by
      have : its[i]? = some y := by simpa using hy
      rw [hu] at this; cases this; rfl
    subst ey
    refine ⟨_, rfl, wpAny_letOwnedTupleGo_enum (s := { s with heap := h', toks := tk + 1 }) ho fun h2 he' sb => ?_⟩
    have hT2 : h2.get? s.heap.objs.size = some { cls := .type "tuple", data := .seq #[.int i tk, y] } := (sb.2 _ (Nat.ne_of_gt hel)).trans hT
    have new : ObjOk X.prog X.w (upd H s.heap.objs.size (.tup [.int (i : Nat), x])) h2 s.heap.objs.size (.tup [.int (i : Nat), x]) :=
      ⟨show 2 ≤ sizeLine by decide, [.int i tk, y], .cons ⟨_, rfl⟩ (.cons ru .nil), ⟨_, hT2, rfl, _, rfl⟩⟩
    have I1 : L2.Inv X pins σ (upd H s.heap.objs.size (.tup [.int (i : Nat), x])) { s with heap := h2, toks := tk + 1 } :=
      I.turnedNew (ch := [e, it]) (fun b ob hb q => by
        have n1 : b ≠ e := fun z => hb (by rw [z]; exact List.mem_cons_self)
        have n2 : b ≠ it := fun z => hb (by rw [z]; exact List.mem_cons_of_mem _ List.mem_cons_self)
        exact (sb.2 b n1).trans (hk b ob n1 n2 q)) hf (Nat.le_refl _) new
    refine ⟨.ref s.heap.objs.size, _, I1, rfl, ⟨_, x, rfl, I.hok.fresh (Nat.le_refl _), rfl, fun ys hy2 => by rw [I.tuple_inj hy2 hq]; exact hx⟩, ⟨⟨y, ?_⟩, hit'.at fun o q => (sb.2 it (Ne.symm hne)).trans q, hne⟩, fun b hb => ?_⟩
    · rw [show ((i + 1 : Nat) : Int) = (i : Int) + 1 by omega]; exact he'
    · have hb' : b < s.heap.objs.size := by
        rcases List.mem_cons.mp hb with z | z
        · rw [z]; exact hel
        · rw [List.mem_singleton.mp z]; exact hil
      rw [upd_ne (Nat.ne_of_lt hb')]
      exact (hf b hb).1
  done := by
    intro X hP hw hK hc i pins s σ H E I hf st hg
    subst hP hw hK
    obtain ⟨⟨old, he⟩, hit, hne⟩ := st
    obtain ⟨xs, hq, hx⟩ := hg
    obtain ⟨its, rv, p, hz⟩ := I.tuple hq
    obtain ⟨f0, f1, f2, f3, f4, f5⟩ := hf it (List.mem_cons_of_mem _ List.mem_cons_self)
    have hl := rv.length
    have hai : a ≠ it := fun z => by
      obtain ⟨o1, h1, c1, _⟩ := p
      obtain ⟨o2, h2, c2, _⟩ := id hit
      rw [z, h2] at h1; cases h1; rw [c2] at c1; exact absurd c1 (by decide)
    have hT0 : s.TypeIs (.ref e) "enumerate" := ⟨_, he, rfl⟩
    unfold pyNext
    refine wpAny_bind (wpAny_attempt (wpAny_callSpecial?_slot (name := Str.ofString "__next__") hT0 F.slot_enumerate_next (wpAny_call_entry F.slot_enumerate_next hT0 F.entry_enumerate_next ?_ (F.args_enumerate_next_1 _))))
    show wpAny _ _ (field (.ref e) 2 >>= _) _ _ _
    refine wpAny_bind (wpAny_field he rfl (x := .ref it) rfl ?_)
    refine wpAny_bind (wpAny_nextOf_tuple_end (I.ok.hd hc) hit p (by rw [Array.getElem?_eq_none]; rw [List.size_toArray]; omega) fun h2 y eb ⟨o, ho, hoc⟩ => ?_)
    refine wpAny_bind (wpAny_isInstance (T := "StopIteration") (b := true) ⟨o, ho, hoc⟩ isSubtype_stop ?_)
    exact wpAny_pure ⟨rfl, I.turned (t' := s.toks) (fun b o hb q => eb b o hb q) f0 f1 f3 f4 f5⟩
  self := fun A i s Q E ⟨⟨_, he⟩, _⟩ h => wpAny_pyIter_enum he h
def enumD : Int → List D → List D
  | _, [] => []
  | i, d :: ds => .tup [.int i, d] :: enumD (i + 1) ds
theorem enumD_len : ∀ (i : Int) (ds : List D), (enumD i ds).length = ds.length
  | _, [] => rfl
  | i, d :: ds => by rw [enumD, List.length_cons, enumD_len, List.length_cons]
theorem enumD_get : ∀ {ds : List D} {k : Int} {i : Nat} {d : D}, (enumD k ds)[i]? = some d → ∃ a, ds[i]? = some a ∧ d = .tup [.int (k + i), a]
  | [], k, i, d, h => by simp [enumD] at h
  | a :: ds, k, 0, d, h => by simp [enumD] at h; exact ⟨a, rfl, by rw [← h]; simp⟩
  | a :: ds, k, i + 1, d, h => by
    have h' : (enumD (k + 1) ds)[i]? = some d := by simpa [enumD] using h
    obtain ⟨x, h1, h2⟩ := enumD_get h'
    refine ⟨x, by simpa using h1, ?_⟩
    rw [h2, show k + 1 + (i : Int) = k + ((i + 1 : Nat) : Int) by omega]
section
variable {X : Cx} {c : Ct} {W : WX} {a : Expr} {wl : AW} {p pos tpos : Pos} {elts : List Expr} {kk : Nat}
theorem Walks.enumT {M : Md} {F : Hp} {p : Addr} {xs : List V} {ds : List D} (h : SqT M.K F p xs) (r : RepL M F xs ds) : Walks M c F (IteT M.K p) (enumD 0 ds) yesK := by
  refine ⟨fun F' H' σ' env' R s _ i hi => ⟨xs, Same.sqT (s.trans R.sub) h, ?_⟩, fun F' H' σ' env' R s _ i d hd => ?_⟩
  · rw [enumD_len] at hi
    rw [r.length]; exact hi
  · obtain ⟨da, h1, rfl⟩ := enumD_get hd
    obtain ⟨x, hx, rx⟩ := r.get' h1
    have k1 := Same.sqT (s.trans R.sub) h
    refine ⟨⟨xs, x, k1, hx⟩, fun v H'' ⟨T, x', e1, hT, e2, f1⟩ => ?_⟩
    subst e1; subst e2
    have := f1 xs k1; rw [hx] at this; cases this
    rw [show (0 : Int) + (i : Int) = (i : Int) by omega]
    exact R.pair hT (.int _) (rx.same s)
end
end LV
namespace LV
open PySem PySem.Spec L2
end LV
namespace LV
open PySem PySem.Spec L2
end LV
namespace LV
open PySem PySem.Spec PySem.W L2
section
variable {P : Program} {w : World} {K : PySem.W.Frag} {mg : Str → Option Value} {base h : Heap}
theorem dat_mk {x : Str} {st : Stmt} {ps : List Str} {f : Addr} {oc : Value} {od an : Option Addr} {osl : Array (Option Value)} {kV doc pm cdv ct : Value} (X : K.In h) (G : h.Ns mainGlobals mg) (a : PySem.W.nsIn K mainGlobals x = some (some (.ref f)))
    (l : K.lookup f = some ⟨oc, od, .func (PySem.W.fnOf x x (defArgs st) (defBody st) (defScope st) .none kV doc pm an cdv ct), osl⟩) (c : PySem.W.codeIn K cdv x = true) (k : PySem.W.keepIn K (.ref f) = true)
    (b : ∀ (kV doc pm : Value) (an : Option Addr) (cdv ct : Value) (us : List Value), us.length = ps.length → bindArgs (PySem.W.fnOf x x (defArgs st) (defBody st) (defScope st) .none kV doc pm an cdv ct) ⟨us, []⟩ = pure (ps.zip us)) :
    ∃ f fd, DefAt K mg x st ps f fd := ⟨f, _, fun_mk l c k, PySem.W.mg_of X G a, (fun_mk l c k).binds b⟩
theorem fnG_mk {x : Str} {st : Stmt} {f : Addr} {fd : FuncData} {N ps : List Str} {k : Nat} {S : FSpec} {b : SW} (pn : List Nat) (D : DefAt K mg x st ps f fd) (Sc : FnScope N ps (defScope st)) (kp : Keeps S pn ps.length N.length b)
    (hbody : ∀ (cdv : Value) (A : Around) (outer : List Env) (s : Shared) (H : Hp) (E : XK), RoomG k (A.deeper (PyProof.Rows.envOfC x (defScope st) s.heap.objs.size f cdv)) →
      ∀ (σ₀ : L2.St) (h₀ : Hp) (xc : Addr → Value → Option Addr → Prop) (hN : Hp), SSs (cxOf (L2.CX P w) P w K mg base N x (defScope st) f cdv A outer s H E) ⟨pn, σ₀, h₀, xc, hN⟩ (fun cls d _ H => E cls d H) (defBody st) b) :
    FnG P w K mg base (k + 1) f fd ps (toSp ⟨K, mg, w⟩ S) :=
  fn_lvG pn D.fn Sc kp fun cdv A outer s H E hr c hc => match c, hc with
    | ⟨_, σ₀, h₀, xc, hN⟩, rfl => hbody cdv A outer s H E hr σ₀ h₀ xc hN
/-- the law's own def, at the law's call -/
theorem law_at {st : Stmt} {x : Str} {k n : Nat} {fa : Addr} (hfa : mg "law" = some (.ref fa)) (D : ∃ f fd, DefAt K mg "law" st [x] f fd)
    (b : ∀ (kV doc pm : Value) (an : Option Addr) (cdv ct : Value) (us : List Value), us.length = [x].length → bindArgs (PySem.W.fnOf "law" "law" (defArgs st) (defBody st) (defScope st) .none kV doc pm an cdv ct) ⟨us, []⟩ = pure ([x].zip us))
    (F : ∀ base : Heap, ∀ f fd, DefAt K mg "law" st [x] f fd → FnG P w K mg base k f fd [x] (toSp ⟨K, mg, w⟩ (SLaw n))) :
    ∃ fd : FuncData, (∀ (s : Shared) (u : Value), BindsTo s fd ⟨[u], []⟩ [(x, u)]) ∧ ∀ base : Heap, K.In base → base.Ns mainGlobals mg → FnG P w K mg base k fa fd [x] (toSp ⟨K, mg, w⟩ (SLaw n)) := by
  obtain ⟨f, fd, D⟩ := D
  have e := hfa.symm.trans D.at_
  cases e
  refine ⟨fd, fun s u => ?_, fun base _ _ => F base _ _ D⟩
  obtain ⟨oc, od, kV, doc, pm, an, cdv, ct, osl, rfl, lk, hcd⟩ := D.fn.ex
  exact .of_eq (b _ _ _ _ _ _ [u] rfl)
end
end LV
namespace LV
open PySem PySem.Spec L2
section
variable {i j : Int} {Q : Rv → Prop} {p : Int → Int → Bool} {f : List Int → List Int → Bool} {ns ms : List Int} {b : Bool} {s : Str}
theorem map_int_inj : ∀ {ns ms : List Int}, ns.map D.int = ms.map D.int → ns = ms
  | [], [], _ => rfl
  | n :: ns, m :: ms, h => by
    rw [List.map_cons, List.map_cons] at h
    injection h with h1 h2
    injection h1 with h1
    rw [h1, map_int_inj h2]
  | [], _ :: _, h => nomatch h
  | _ :: _, [], h => nomatch h
theorem gOrd_ii : gOrd p f (.int i) (.int j) Q = Q (.fz (.bl (p i j))) := propext ⟨fun h => by
  rcases h with ⟨i', j', e1, e2, q⟩ | ⟨_, _, e1, _⟩
  · injection e1 with e1; injection e2 with e2; subst e1 e2; exact q
  · (cases e1), fun q => .inl ⟨i, j, rfl, rfl, q⟩⟩
theorem gOrd_tt : gOrd p f (.tup (ns.map D.int)) (.tup (ms.map D.int)) Q = Q (.fz (.bl (f ns ms))) := propext ⟨fun h => by
  rcases h with ⟨i', j', e1, e2, q⟩ | ⟨a, b, e1, e2, q⟩
  · cases e1
  · injection e1 with e1; injection e2 with e2
    rw [map_int_inj e1, map_int_inj e2]; exact q, fun q => .inr ⟨ns, ms, rfl, rfl, q⟩⟩
theorem gInt_ii {C : Int → Int → Prop} {g : Int → Int → Int} : gInt C g (.int i) (.int j) Q = (C i j ∧ Q (.fz (.int (g i j)))) := propext ⟨fun ⟨i', j', e1, e2, c, q⟩ => by
  injection e1 with e1; injection e2 with e2; subst e1 e2; exact ⟨c, q⟩, fun ⟨c, q⟩ => ⟨i, j, rfl, rfl, c, q⟩⟩
theorem gInt1_i : gInt1 [.int i] Q = Q (.fz (.int i)) := propext ⟨fun h => by
  rcases h with ⟨i', e, q⟩ | ⟨k, e, q⟩
  · injection e with e _; injection e with e; subst e; exact q
  · injection e with e _; (cases e), fun q => .inl ⟨i, rfl, q⟩⟩
theorem gAbs_i : gAbs [.int i] Q = Q (.fz (.int (if i < 0 then -i else i))) := propext ⟨fun ⟨i', e, q⟩ => by
  injection e with e _; injection e with e; subst e; exact q, fun q => ⟨i, rfl, q⟩⟩
theorem gMax2_ii : gMax2 [.int i, .int j] Q = Q (.fz (.int (if j > i then j else i))) := propext ⟨fun ⟨i', j', e, q⟩ => by
  injection e with e1 e; injection e with e2 _; injection e1 with e1; injection e2 with e2; subst e1 e2; exact q, fun q => ⟨i, j, rfl, q⟩⟩
theorem gMin2_ii : gMin2 [.int i, .int j] Q = Q (.fz (.int (if j < i then j else i))) := propext ⟨fun ⟨i', j', e, q⟩ => by
  injection e with e1 e; injection e with e2 _; injection e1 with e1; injection e2 with e2; subst e1 e2; exact q, fun q => ⟨i, j, rfl, q⟩⟩
theorem gLt_ii : gLt (.int i) (.int j) Q = Q (.fz (.bl (decide (i < j)))) := gOrd_ii
theorem gLe_ii : gLe (.int i) (.int j) Q = Q (.fz (.bl (decide (i ≤ j)))) := gOrd_ii
theorem gGt_ii : gGt (.int i) (.int j) Q = Q (.fz (.bl (decide (j < i)))) := gOrd_ii
theorem gGe_ii : gGe (.int i) (.int j) Q = Q (.fz (.bl (decide (j ≤ i)))) := gOrd_ii
theorem gLt_tt : gLt (rowD ns) (rowD ms) Q = Q (.fz (.bl (ltI ns ms))) := gOrd_tt
theorem gLe_tt : gLe (rowD ns) (rowD ms) Q = Q (.fz (.bl (leI ns ms))) := gOrd_tt
theorem gGt_tt : gGt (rowD ns) (rowD ms) Q = Q (.fz (.bl (ltI ms ns))) := gOrd_tt
theorem gGe_tt : gGe (rowD ns) (rowD ms) Q = Q (.fz (.bl (leI ms ns))) := gOrd_tt
theorem gSub_ii : gSub (.int i) (.int j) Q = Q (.fz (.int (i - j))) := by unfold gSub; rw [gInt_ii]; exact propext ⟨fun h => h.2, fun h => ⟨True.intro, h⟩⟩
theorem gMod_ii : gMod (.int i) (.int j) Q = (j ≠ 0 ∧ Q (.fz (.int (i.fmod j)))) := gInt_ii
theorem gDiv_ii : gDiv (.int i) (.int j) Q = (CDvA i j ∧ Q (.fz (.int (i.fdiv j)))) := gInt_ii
theorem gPow_ii : gPow (.int i) (.int j) Q = (CPow i j ∧ Q (.fz (.int (i ^ j.toNat)))) := gInt_ii
theorem gAdd_ii : gAdd (.int i) (.int j) Q = Q (.fz (.int (i + j))) := rfl
theorem gAdd_ss {s t : Str} : gAdd (.str s) (.str t) Q = (s.length + t.length ≤ sizeLine ∧ Q (.fz (.str (s ++ t)))) := rfl
theorem gAdd_tt {xs ys : List D} : gAdd (.tup xs) (.tup ys) Q = (xs.length + ys.length ≤ sizeLine ∧ Q (.fz (.tup (xs ++ ys)))) := rfl
theorem gAdd_ll {xs ys : List D} : gAdd (.lst xs) (.lst ys) Q = (xs.length + ys.length ≤ sizeLine ∧ Q (.ow (.lst (xs ++ ys)))) := rfl
theorem gMul_ii : gMul (.int i) (.int j) Q = (CMulX i j ∧ Q (.fz (.int (i * j)))) := rfl
theorem gMul_li {xs : List D} : gMul (.lst xs) (.int i) Q = (-(2 ^ 63) ≤ i ∧ i < 2 ^ 63 ∧ xs.length * i.toNat ≤ sizeLine ∧ Q (.ow (.lst (List.replicate i.toNat xs).flatten))) := rfl
theorem gIx_t {xs : List D} : gIx (.tup xs) (.int i) Q = ∃ d, L2.atI xs i = some d ∧ Q (.fz d) := rfl
theorem gIx_l {xs : List D} : gIx (.lst xs) (.int i) Q = ∃ d, L2.atI xs i = some d ∧ Q (.fz d) := rfl
theorem gIx_s {xs : List Int} : gIx (.scr xs) (.int i) Q = ∃ d, L2.atI xs i = some d ∧ Q (.fz (.int d)) := rfl
theorem gIx_x {z : Str} : gIx (.str z) (.int i) Q = (z.length ≤ sizeLine ∧ ∃ c, L2.atI z.cps.toList i = some c ∧ Q (.fz (.str ⟨#[c]⟩))) := rfl
theorem okE_int : (D.int i).okE = true := rfl
theorem okE_bl : (D.bl b).okE = true := rfl
theorem okE_non : D.non.okE = true := rfl
theorem eqv_ii : eqvD (.int i) (.int j) = (i == j) := rfl
theorem eqv_ss {t : Str} : eqvD (.str s) (.str t) = (s == t) := rfl
end
theorem at_0 {α : Type} {a : α} {l : List α} : L2.atI (a :: l) 0 = some a := by
  unfold L2.atI L2.ixN
  rw [if_pos (Int.le_refl 0), if_pos (by rw [List.length_cons]; omega)]; rfl
theorem at_1 {α : Type} {a b : α} {l : List α} : L2.atI (a :: b :: l) 1 = some b := by
  unfold L2.atI L2.ixN
  rw [if_pos (by decide), if_pos (by rw [List.length_cons, List.length_cons]; omega)]; rfl
theorem at_2 {α : Type} {a b c : α} {l : List α} : L2.atI (a :: b :: c :: l) 2 = some c := by
  unfold L2.atI L2.ixN
  rw [if_pos (by decide), if_pos (by rw [List.length_cons, List.length_cons, List.length_cons]; omega)]; rfl
theorem at_3 {α : Type} {a b c d : α} {l : List α} : L2.atI (a :: b :: c :: d :: l) 3 = some d := by
  unfold L2.atI L2.ixN
  rw [if_pos (by decide), if_pos (by rw [List.length_cons, List.length_cons, List.length_cons, List.length_cons]; omega)]; rfl
theorem ix4_0 : ixN 4 0 = some 0 := rfl
theorem ix4_1 : ixN 4 1 = some 1 := rfl
theorem ix4_2 : ixN 4 2 = some 2 := rfl
theorem ix4_3 : ixN 4 3 = some 3 := rfl
/-- a place inside -/
theorem at_in {α : Type} {l : List α} {i : Int} (h0 : 0 ≤ i) (h : i < l.length) : ∃ x, L2.atI l i = some x ∧ x ∈ l := by
  unfold L2.atI L2.ixN
  rw [if_pos h0, if_pos h]
  exact ⟨l[i.toNat]'(by omega), List.getElem?_eq_getElem (by omega), List.getElem_mem _⟩
theorem iteB {b : Bool} {X Y : Prop} {inst : Decidable (b = true)} (h1 : b = true → X) (h2 : b = false → Y) : @ite Prop (b = true) inst X Y := by
  cases b with
  | true => rw [if_pos rfl]; exact h1 rfl
  | false => rw [if_neg Bool.false_ne_true]; exact h2 rfl
theorem fit1 {pn : List Nat} {d : D} : ArgsFit pn 1 [.fz d] := ⟨rfl, fun j o h => by rcases j with _ | j <;> simp at h, fun j a C ks vs h => by rcases j with _ | j <;> simp at h⟩
theorem fit2 {pn : List Nat} {d d' : D} : ArgsFit pn 2 [.fz d, .fz d'] := ⟨rfl, fun j o h => by rcases j with _ | _ | j <;> simp at h, fun j a C ks vs h => by rcases j with _ | _ | j <;> simp at h⟩
theorem fit3 {pn : List Nat} {d d' d'' : D} : ArgsFit pn 3 [.fz d, .fz d', .fz d''] := ⟨rfl, fun j o h => by rcases j with _ | _ | _ | j <;> simp at h, fun j a C ks vs h => by rcases j with _ | _ | _ | j <;> simp at h⟩
theorem fitO1 {o : O} : ArgsFit [0] 1 [.ow o] := ⟨rfl, fun j o h => by rcases j with _ | j <;> simp at h ⊢, fun j a C ks vs h => by rcases j with _ | j <;> simp at h⟩
theorem fitO2 {o : O} {d : D} : ArgsFit [0] 2 [.ow o, .fz d] := ⟨rfl, fun j o h => by rcases j with _ | _ | j <;> simp at h ⊢, fun j a C ks vs h => by rcases j with _ | _ | j <;> simp at h⟩
end LV
namespace LV
open PySem PySem.Spec L2
/-- one statement at a time: what follows it is a name -/
theorem seq_k {s1 s2 : SW} {K : Ks} {env : En} (h : ∀ K1 : Ks, (∀ e, s2 K e → K1.nx e) → K1.rt = K.rt → K1.bk = K.bk → K1.ct = K.ct → K1.ex = K.ex → s1 K1 env) : wSeq s1 s2 K env :=
  h { K with nx := fun e => s2 K e } (fun _ q => q) rfl rfl rfl rfl
end LV
open PySem PySem.Spec L2 LV
local macro_rules | `(tactic| walk_at "lv") => `(tactic| simp only [wSeq, wSkip, wRet, wRetN, wIf, wSet, wSetIx, wExp, wApp, wFor, wBrk, wCnt, wRev, wAnd, wOr, wNot, wIte, wtNot, wtAnd, wtOr, wB, wTru, wVar, wC, wOp2, wFz, wIsi, wTup, wLst, wNil, wCons, wBlt, wFrz, wNeg, wCall, wSl, wNoP, wPt, wChain, wIt, itR, itemsD, wRng1, wRng2, wZip, wRaise1,
  retR, setR, Rv.frz, look, lookL, frz1, frzL, valOf, valL, slotsOf, putL, startE, O.d, bindT, bindS, loopW, List.map_cons, List.map_nil, List.length_cons, List.length_nil, List.replicate, List.cons_append, List.nil_append, List.getElem?_cons_zero, List.getElem?_cons_succ, List.set_cons_zero, List.set_cons_succ, List.set_nil, List.append_nil,
  gLt_ii, gLe_ii, gGt_ii, gGe_ii, gLt_tt, gLe_tt, gGt_tt, gGe_tt, gAdd_ii, gAdd_ss, gAdd_tt, gAdd_ll, gSub_ii, gMod_ii, gDiv_ii, gPow_ii, gMulT_ii, gMulT_li, gIx_t, gIx_l, gIx_s, gIx_x, gLen, gInt1_i, gAbs_i, gMax2_ii, gMin2_ii, gList, gTuple, gEq, gNe, gIn, gNotIn, gIsN, gIsNotN, okE_int, okE_bl, okE_non, eqv_ii, eqv_ss, truD, isN, yesK, gSl, at_0, at_1, at_2, at_3, ix4_0, ix4_1, ix4_2, ix4_3,
  Nat.zero_add, Nat.sub_self, Nat.reduceAdd, Nat.reduceSub, Nat.add_one_sub_one, Option.some.injEq, Prod.mk.injEq, D.int.injEq, D.bl.injEq, D.tup.injEq, D.lst.injEq, Rv.fz.injEq, Rv.sl.injEq, exists_eq_left, exists_eq_left', exists_and_left, and_assoc, exists_eq, exists_eq', Option.getD_some, Option.getD_some, true_and, and_true, implies_true, if_true, if_false, Bool.false_eq_true, reduceCtorEq, ite_true, ite_false, ne_eq, not_false_eq_true, not_true_eq_false,
  KsFn, finA, List.mem_nil_iff, List.not_mem_nil, List.mem_cons, backOk, List.cons.injEq, Val.fz.injEq, Val.ow.injEq, O.lst.injEq, or_false, or_true, false_or, exists_false, false_and, and_false, List.nodup_nil, List.nodup_cons, Bool.not_true, Bool.not_false])
local macro_rules | `(tactic| simp_all! only [$ts,*]) => `(tactic| simp only [$ts,*, wSeq, wSkip, wRet, wRetN, wIf, wSet, wSetIx, wExp, wApp, wFor, wBrk, wCnt, wRev, wAnd, wOr, wNot, wIte, wtNot, wtAnd, wtOr, wB, wTru, wVar, wC, wOp2, wFz, wIsi, wTup, wLst, wNil, wCons, wBlt, wFrz, wNeg, wCall, wSl, wNoP, wPt, wChain, wIt, itR, itemsD, wRng1, wRng2, wZip, wRaise1,
  retR, setR, Rv.frz, look, lookL, frz1, frzL, valOf, valL, slotsOf, putL, startE, O.d, bindT, bindS, loopW, List.map_cons, List.map_nil, List.length_cons, List.length_nil, List.replicate, List.cons_append, List.nil_append, List.getElem?_cons_zero, List.getElem?_cons_succ, List.set_cons_zero, List.set_cons_succ, List.set_nil, List.append_nil,
  gLt_ii, gLe_ii, gGt_ii, gGe_ii, gLt_tt, gLe_tt, gGt_tt, gGe_tt, gAdd_ii, gAdd_ss, gAdd_tt, gAdd_ll, gSub_ii, gMod_ii, gDiv_ii, gPow_ii, gMulT_ii, gMulT_li, gIx_t, gIx_l, gIx_s, gIx_x, gLen, gInt1_i, gAbs_i, gMax2_ii, gMin2_ii, gList, gTuple, gEq, gNe, gIn, gNotIn, gIsN, gIsNotN, okE_int, okE_bl, okE_non, eqv_ii, eqv_ss, truD, isN, yesK, gSl, at_0, at_1, at_2, at_3, ix4_0, ix4_1, ix4_2, ix4_3,
  Nat.zero_add, Nat.sub_self, Nat.reduceAdd, Nat.reduceSub, Nat.add_one_sub_one, Option.some.injEq, Prod.mk.injEq, D.int.injEq, D.bl.injEq, D.tup.injEq, D.lst.injEq, Rv.fz.injEq, Rv.sl.injEq, exists_eq_left, exists_eq_left', exists_and_left, and_assoc, exists_eq, exists_eq', Option.getD_some, Option.getD_some, true_and, and_true, implies_true, if_true, if_false, Bool.false_eq_true, reduceCtorEq, ite_true, ite_false, ne_eq, not_false_eq_true, not_true_eq_false,
  KsFn, finA, List.mem_nil_iff, List.not_mem_nil, List.mem_cons, backOk, List.cons.injEq, Val.fz.injEq, Val.ow.injEq, O.lst.injEq, or_false, or_true, false_or, exists_false, false_and, and_false, List.nodup_nil, List.nodup_cons, Bool.not_true, Bool.not_false])
namespace LV
open PySem PySem.Spec L2
end LV
namespace LV
open PySem PySem.Spec L2
end LV
namespace LV
open PySem PySem.Spec PyProof.Rows L2
abbrev ClA := Value × Nat × (Addr → Value → Option Addr → TS)
abbrev ClM := (Str → Option Bool) × Nat × SW
def exM (K : Ks) : List ClM → XW
  | [] => K.ex
  | (ct, i, ws) :: r => fun x e => noEx e = true ∧ ∃ b, ct x.C = some b ∧ if b = true then ∀ a, ws (KsSu i K) (e.set i (some (.ex a x.C x.ks x.vs))) else exM K r x e
abbrev tsOf (X : Cx) (c : Ct) (ws : SW) : Addr → Value → Option Addr → TS := fun a cls d => SRd (mdX X) { c with xc := fun a' c' d' => a' = a ∧ c' = cls ∧ d' = d } W0 ws
inductive HdL (X : Cx) (c : Ct) : List ExceptHandler → List ClM → List ClA → Prop
  | nil : HdL X c [] [] []
  | cons {x n : Str} {cv : Value} {i : Nat} {ct : Str → Option Bool} {ws : SW} {b₀ : Stmt} {su : List Stmt} {np pp : Pos} {hds : List ExceptHandler} {hs : List ClM} {l : List ClA} (hi : X.N[i]? = some n) (hln : X.env.kindOf n = some .local) (hc : Names X x cv) (hip : i ∉ c.pn) (hca : Catches X.K X.mg cv ct) (ms : MonoS ws)
      (hsu : ∀ (a : Addr) (oe : Obj) (cls : Value) (d : Option Addr) (pn : List (Addr × Obj)), Zc cls d oe → (∃ vs, oe.data = .fields vs) → SSs (X.suite a ((a, oe) :: pn)) { c with xc := fun a' c' d' => a' = a ∧ c' = cls ∧ d' = d } W0 (b₀ :: su) ws) (r : HdL X c hds hs l) :
      HdL X c (.ExceptHandler (some (.Name x np)) (some n) (b₀ :: su) pp :: hds) ((ct, i, ws) :: hs) ((cv, i, tsOf X c ws) :: l)
section
variable {X : Cx} {c : Ct} {W : WX} {body : List Stmt} {h₀ : ExceptHandler} {hds : List ExceptHandler} {hs : List ClM} {l : List ClA} {pos : Pos} {wb : SW}
theorem HdL.mono {hds : List ExceptHandler} (h : HdL X c hds hs l) {K K' : Ks} (k : KLe K K') : ∀ x e, exM K hs x e → exM K' hs x e := by
  induction h with
  | nil => exact k.ex
  | @cons x n cv i ct ws b₀ su np pp hds hs l hi hln hc hip hca ms hsu r ih =>
    intro x e ⟨n, b, h, z⟩
    refine ⟨n, b, h, ?_⟩
    cases b with
    | true =>
      rw [if_pos rfl] at z ⊢
      exact fun a => ms.mo (K := KsSu i K) ⟨fun _ ⟨a, b⟩ => ⟨a, k.nx _ b⟩, fun _ _ ⟨a, b⟩ => ⟨a, k.rt _ _ b⟩, fun _ ⟨a, b⟩ => ⟨a, k.bk _ b⟩, fun _ ⟨a, b⟩ => ⟨a, k.ct _ b⟩, fun _ _ z => z⟩ (z a)
    | false =>
      rw [if_neg Bool.false_ne_true] at z ⊢
      exact ih _ _ z
end
end LV
namespace LV
open PySem PySem.Spec L2
open PySem.W (KeepsBut AllAlike Sortable dataKind SortsAt EachIs KeyedOut dataLe sortingHeap copyHeap sorted_of_sort keyH_end sortVals keyedOut_each)
open PyProof.Rows (seqObj ksk_rest ksk_tree ksk_end ksk_fold)
end LV
namespace LV
open PySem PySem.Spec L2
section
variable {M : Md} {F H F' H' : Hp} {vs : List V} {as : List Val} {v : V} {a : Val}
theorem Rel.tail {H0 : Hp} (R : Rel M (ctN H0) F H (sV (v :: vs)) (eV (a :: as))) : Rel M (ctN H0) F H (sV vs) (eV as) := by
  have g : ∀ {k : Nat} {b : Val}, (eV as)[k]? = some (some b) → (eV (a :: as))[k + 1]? = some (some b) := fun {k b} h => h
  have gs : ∀ {k : Nat} {u : V}, (sV (v :: vs))[k + 1]? = some (some u) → (sV vs)[k]? = some (some u) := fun {k u} h => h
  refine ⟨R.sub, by have := R.len; unfold eV sV at this ⊢; simpa using this, fun k d h => ?_, fun k o h => ?_, fun k b C ks ds h => ?_, fun j k o u p h1 h2 h3 h4 => ?_, fun _ h => (nomatch h), fun _ _ h => (nomatch h), fun _ _ _ _ _ _ => rfl, fun k o b h hb => R.frN (k + 1) o b (g h) hb, R.oldN⟩
  · obtain ⟨u, h1, h2⟩ := R.fz (k + 1) d (g h); exact ⟨u, gs h1, h2⟩
  · obtain ⟨p, h1, h2⟩ := R.ow (k + 1) o (g h); exact ⟨p, gs h1, h2⟩
  · obtain ⟨_, _, _, z, _⟩ := R.ex (k + 1) b C ks ds (g h); exact z.elim
  · have := R.sep (j + 1) (k + 1) o u p (g h1) (g h2) h3 h4; omega
end
end LV
namespace LV
open PySem PySem.Spec L2
end LV
namespace LV
open PySem PySem.Spec L2
section
variable {X : Cx} {c : Ct} {W : WX} {a b e : Expr} {es : List Expr} {w wa wb : EW} {wl : AW} {pos p p2 : Pos} {m C x : Str} {k j : Nat} {S : FSpec} {tbl : List (Str × FSpec)}
/-- an own method's run within an operator: what stands ready -/
structure OpRdy (X : Cx) (W : WX) (m : Str) (σ : L2.St) (j : Nat) (q : Addr) (vs : List V) (H : Hp) (Q : VK) : Prop where
  ex : ∃ cc dx fv f fd ps k S, H q = some (.ins cc dx fv) ∧ Cls X.K cc ∧ Meth X.K cc m f ∧ k ≤ j ∧ FnG X.prog X.w X.K X.mg X.base k f fd ps (toSp (mdX X) S) ∧ Binds X.K fd ps [] ∧ toSp (mdX X) S (.ref q :: vs) H Q (WE W σ)
theorem OpRdy.run {σ : L2.St} {q : Addr} {vs : List V} {us : List Value} {H : Hp} {Q : VK} {pins : List (Addr × Obj)} {s : Shared} (O : OpRdy X W m σ j q vs H Q) (tk : Takes X W) (hr : RoomG j X.A) (I : L2.Inv X pins σ H s) (r : Vals vs us) :
    ∃ cc f ox od, PySem.W.InstAt s.heap q ox cc (some od) ∧ PySem.W.findIn X.K (.ref cc) m = some (some (.ref f)) ∧ PySem.W.isFn X.K (.ref f) = true ∧ wpAny (model X.prog X.w) X.A (call (.ref f) (.ref q :: us)) (EP X pins σ Q) X.xe s := by
  obtain ⟨cc, dx, fv, f, fd, ps, k, S, h1, cl, hm, hk, Fn, hb, sp⟩ := O.ex
  obtain ⟨mA, J, _⟩ := ins_get I.hok h1
  obtain ⟨od, J, _⟩ := J.look
  exact ⟨cc, f, _, od, J, hm.at_, hm.fn, run_fnG (us := .ref q :: us) (vs := .ref q :: vs) (E := WE W) Fn (hr.mono hk) hb (passAt tk σ) I (.cons rfl r) sp⟩
end
end LV
namespace LV
open PySem PySem.Spec L2
end LV
namespace LV
open PySem PySem.Spec PySem.W L2
/-- a name that an inner comprehension takes from the outer one -/
def freeB (scope sc : Scope) : Bool := scope.names.all fun y => y.2 != .free || (sc.names.lookup y.1 == some .cell || sc.names.lookup y.1 == some .free)
theorem free_of {scope sc : Scope} (h : freeB scope sc = true) : ∀ y ∈ scope.names, y.2 = .free → sc.names.lookup y.1 = some .cell ∨ sc.names.lookup y.1 = some .free := fun y hy e => by
  have := List.all_eq_true.mp h y hy
  rw [e] at this
  rcases Bool.or_eq_true_iff.mp this with z | z
  · exact nomatch (show false = true from z)
  · exact (Bool.or_eq_true_iff.mp z).imp (fun z => beq_iff_eq.mp z) fun z => beq_iff_eq.mp z
end LV
set_option maxHeartbeats 400000
namespace LV
open PySem PySem.Spec PyProof.Rows L2
def wPin (i : Nat) (w : EW) : EW := fun env Q E => (∃ o, env[i]? = some (some (.ow o))) ∧ w env Q E
abbrev pinC (c : Ct) (i : Nat) (σ : L2.St) : Ct := { c with pn := i :: c.pn, σ₀ := σ }
theorem Rel.pinD {M : Md} {c : Ct} {F H : Hp} {σ : L2.St} {env : En} {i : Nat} (R : Rel M c F H σ env) : Rel M (pinC c i σ) F H σ env :=
  ⟨R.sub, R.len, R.fz, R.ow, R.ex, R.sep, fun _ _ => rfl, R.old, fun j o p h n k => R.fr j o p h (fun z => n (List.mem_cons_of_mem _ z)) k, R.frN, R.oldN⟩
theorem Rel.unpin {M : Md} {c : Ct} {F H F' H' : Hp} {σ σ' : L2.St} {env env' : En} {i : Nat} (R : Rel M c F H σ env) (ho : ∃ o, env[i]? = some (some (.ow o))) (R' : Rel M (pinC c i σ) F' H' σ' env') : Rel M c F' H' σ' env' := by
  refine ⟨R'.sub, R'.len, R'.fz, R'.ow, R'.ex, R'.sep, fun j hj => (R'.pin j (List.mem_cons_of_mem _ hj)).trans (R.pin j hj), R'.old, fun j o p h n k => ?_, R'.frN, R'.oldN⟩
  by_cases e : j = i
  · subst e
    obtain ⟨u, hu⟩ := ho
    have hs : σ'[j]? = σ[j]? := R'.pin j List.mem_cons_self
    exact R.fr j u p hu n (hs ▸ k)
  · exact R'.fr j o p h (fun z => (List.mem_cons.mp z).elim e n) k
theorem Mono.pin {i : Nat} {w : EW} (m : Mono w) : Mono (wPin i w) := ⟨fun hQ hE ⟨a, q⟩ => ⟨a, m.mo hQ hE q⟩⟩
end LV
namespace LV
open PySem PySem.Spec L2
end LV
set_option maxHeartbeats 1000000
namespace LV
open PySem PySem.Spec L2
end LV
namespace LV
open PySem PySem.Spec PySem.W L2
end LV
namespace LV
open PySem PySem.Spec L2
end LV
set_option maxHeartbeats 400000
namespace LV
open PySem PySem.Spec L2
end LV
namespace LV
open PySem PySem.Spec L2
end LV
namespace LV
open PySem PySem.Spec L2
end LV
set_option maxHeartbeats 1000000
namespace LV
open PySem PySem.Spec L2
end LV
namespace LV
open PySem PySem.Spec L2
end LV
set_option maxHeartbeats 400000
namespace LV
open PySem PySem.Spec L2
end LV
set_option maxHeartbeats 1000000
namespace LV
open PySem PySem.Spec PySem.W L2
end LV
namespace LV
open PySem PySem.Spec PySem.W L2
end LV
namespace LV
open PySem PySem.Spec L2
end LV
namespace LV
open PySem PySem.Spec L2
def wWhile (u : TW) (wb : SW) : SW := fun K env => ∃ V : Nat → En → Prop, (∃ m, V m env) ∧ ∀ m e, V m e → u e (fun b e1 => if b = true then wb { K with nx := fun e' => ∃ m', m' < m ∧ V m' e', ct := fun e' => ∃ m', m' < m ∧ V m' e', bk := K.nx } e1 else K.nx e1) K.ex
section
variable {X : Cx} {c : Ct} {W : WX} {e : Expr} {u : TW} {wb : SW} {body : List Stmt} {pos : Pos}
theorem MonoS.while_ (mu : MonoT u) (mb : MonoS wb) : MonoS (wWhile u wb) := ⟨fun {K K' env} k ⟨V, h0, h⟩ => ⟨V, h0, fun m e v => mu.mo (fun b e1 q => by
  cases b with
  | true =>
    rw [if_pos rfl] at q ⊢
    exact mb.mo (K := { K with nx := fun e' => ∃ m', m' < m ∧ V m' e', ct := fun e' => ∃ m', m' < m ∧ V m' e', bk := K.nx }) ⟨fun _ z => z, k.rt, k.nx, fun _ z => z, k.ex⟩ q
  | false =>
    rw [if_neg Bool.false_ne_true] at q ⊢
    exact k.nx _ q) (fun _ _ z => k.ex _ _ z) (h m e v)⟩⟩
theorem ss_while (hp : PassesOwn (model X.prog X.w) X.A X.env X.xe) (hc : ST X c W e u) (hb : SSs X c W body wb) : SS X c W (.While e body [] pos) (wWhile u wb) := by
  refine ⟨PS.imp (ps_while hp hc.pt hb.ps) fun D σ H q => ?_, .while_ hc.mo hb.mo⟩
  obtain ⟨F, env, R, V, ⟨m0, w0⟩, turn⟩ := q
  refine ⟨fun m σ' H' => ∃ F' env', Rel (mdX X) c F' H' σ' env' ∧ Evo (Own σ env) (Own σ' env') F H F' H' ∧ V m env', ⟨m0, F, env, R, Evo.refl, w0⟩, ?_⟩
  rintro m σ' H' ⟨F', env', R', ev, wm⟩
  refine ⟨F', env', R', hc.mo.mo (fun b e1 q => ?_) (fun x e2 z => fun cl d F2 H2 R2 ev2 ok => z cl d σ' F2 H2 R2 (ev.trans ev2) ok) (turn m env' wm)⟩
  intro F1 H1 R1 ev1
  have ev2 := ev.trans ev1
  cases b with
  | true =>
    rw [if_pos rfl] at q ⊢
    refine ⟨fun σ3 H3 => ∃ m', m' < m ∧ ∃ F3 env3, Rel (mdX X) c F3 H3 σ3 env3 ∧ Evo (Own σ env) (Own σ3 env3) F H F3 H3 ∧ V m' env3, fun σ3 H3 z => z, F1, e1, R1,
      hb.mo.mo (K := { KsOf (mdX X) c W D F H σ env with nx := fun e' => ∃ m', m' < m ∧ V m' e', ct := fun e' => ∃ m', m' < m ∧ V m' e', bk := NxP (mdX X) c F H σ env D.nx }) ⟨fun e3 ⟨m', hm, v⟩ σ3 F3 H3 R3 ev3 => ⟨m', hm, F3, e3, R3, ev2.trans ev3, v⟩, fun r e3 z v σ3 F3 H3 R3 ev3 ok => z v σ3 F3 H3 R3 (ev2.trans ev3) ok, fun e3 z σ3 F3 H3 R3 ev3 => z σ3 F3 H3 R3 (ev2.trans ev3), fun e3 ⟨m', hm, v⟩ σ3 F3 H3 R3 ev3 => ⟨m', hm, F3, e3, R3, ev2.trans ev3, v⟩, fun x e3 z cl d σ3 F3 H3 R3 ev3 ok => z cl d σ3 F3 H3 R3 (ev2.trans ev3) ok⟩ q⟩
  | false =>
    rw [if_neg Bool.false_ne_true] at q ⊢
    exact q σ' F1 H1 R1 ev2
/-- how a while is run: an invariant with its measure -/
theorem while_k {K : Ks} {env : En} (V : Nat → En → Prop) (m : Nat) (h0 : V m env) (h : ∀ m e, V m e → u e (fun b e1 => if b = true then wb { K with nx := fun e' => ∃ m', m' < m ∧ V m' e', ct := fun e' => ∃ m', m' < m ∧ V m' e', bk := K.nx } e1 else K.nx e1) K.ex) : wWhile u wb K env := ⟨V, ⟨m, h0⟩, h⟩
end
end LV
namespace LV
open PySem PySem.Spec L2
def wPar (i j : Nat) (wl : AW) : SW := fun K env => wl env (fun rs e => ∃ d1 d2 e2, frzL e rs = some ([d1, d2], e2) ∧ K.nx ((e2.set i (some (.fz d1))).set j (some (.fz d2)))) K.ex
section
variable {X : Cx} {c : Ct} {W : WX} {a b : Expr} {wl : AW} {i j : Nat} {x y : Str} {px py pt pt2 pos : Pos} {kt k2 : Nat}
theorem MonoS.par (m : MonoA wl) : MonoS (wPar i j wl) := ⟨fun k h => m.mo (fun _ _ ⟨d1, d2, e2, f, z⟩ => ⟨d1, d2, e2, f, k.nx _ z⟩) (fun _ _ z => k.ex _ _ z) h⟩
theorem ss_par (hip : i ∉ c.pn) (hjp : j ∉ c.pn) (hc : X.calm = true) (hN : X.N.Nodup) (hi : X.N[i]? = some x) (hj : X.N[j]? = some y) (hij : i ≠ j) (hx : X.env.scope.names.lookup x = some .local) (hy : X.env.scope.names.lookup y = some .local) (ha : SA X c W [a, b] wl)
    (hw : swappedStores [.Tuple [.Name x px, .Name y py] kt pt] (.Tuple [a, b] k2 pt2) X.env = pure (some [x, y]) := by rfl)
    (hs : swapsWithSole [.Tuple [.Name x px, .Name y py] kt pt] (.Tuple [a, b] k2 pt2) pos.line X.env = pure false := by rfl) :
    SS X c W (.Assign [.Tuple [.Name x px, .Name y py] kt pt] (.Tuple [a, b] k2 pt2) pos) (wPar i j wl) := by
  refine ⟨PS.imp (ps_par hc hN hi hj hij hx hy ha.pa hw hs) fun D σ H q => ?_, .par ha.mo⟩
  obtain ⟨F, env, R, q⟩ := q
  refine ⟨F, env, R, ha.mo.mo (fun rs e1 ⟨d1, d2, e2, hf, z⟩ => ?_) (fun _ _ z => z.xp) q⟩
  intro vs F1 H1 R1 ev1 ok
  obtain ⟨F2, R2, ev2, rl⟩ := frzL_ok R1 ok hf
  cases rl with
  | @cons v _ _ _ rv rl =>
    cases rl with
    | @cons w _ _ _ rw rl =>
      cases rl
      refine ⟨v, w, rfl, z _ F2 H1 ((R2.setFz' hip rv).setFz' hjp rw) ?_⟩
      exact (ev1.trans ev2).trans (Evo.sub fun b hb => own_setFz b (own_setFz b hb))
end
end LV
namespace LV
open PySem PySem.Spec L2
end LV
namespace LV
open PySem PySem.Spec L2
end LV
namespace LV
open PySem PySem.Spec L2
end LV
namespace LV
open PySem PySem.Spec PySem.W PyProof.Rows L2
end LV
namespace LV
open PySem PySem.Spec L2
def wCallT (S : FSpec) (w1 : EW) (wl : AW) : EW := fun env Q E => w1 env (fun r e1 => ∃ o, r = .ow o ∧ (∀ xs, o ≠ .nst xs) ∧ wl e1 (fun rs e2 => ∃ args, valL e2 rs = some args ∧ (slotsOf rs).Nodup ∧
  S (.ow o :: args) (fun r args' => ∃ a0 as', args' = a0 :: as' ∧ backOk (.ow o :: args) (a0 :: as') = true ∧ (∀ i, r ≠ .sl i) ∧ Q r (putL e2 rs as')) (fun x args' => ∃ a0 as', args' = a0 :: as' ∧ backOk (.ow o :: args) (a0 :: as') = true ∧ E x (putL e2 rs as'))) E) E
theorem Mono.callT {S : FSpec} {w1 : EW} {wl : AW} (mS : MonoF S) (m1 : Mono w1) (ml : MonoA wl) : Mono (wCallT S w1 wl) := ⟨fun hQ hE h => m1.mo (fun r e1 ⟨o, hr, hi, z⟩ => ⟨o, hr, hi, ml.mo (fun rs e ⟨args, l, n, q⟩ => ⟨args, l, n, mS.mo (fun _ _ ⟨a0, as', a, b, n, z⟩ => ⟨a0, as', a, b, n, hQ _ _ z⟩) (fun _ _ ⟨a0, as', a, b, z⟩ => ⟨a0, as', a, b, hE _ _ z⟩) q⟩) hE z⟩) hE h⟩
def Ct.cut (c : Ct) (n : Nat) : Ct := { c with pn := c.pn.filter fun i => decide (i < n) }
section
variable {M : Md} {c : Ct} {F H F' H' : Hp} {σ : St} {env : En} {p : Addr} {o : O} {rs : List Rv} {args : List Val}
theorem get_snoc {α : Type} {l : List α} {x : α} {i : Nat} {y : α} (h : (l ++ [x])[i]? = some y) : l[i]? = some y ∨ (i = l.length ∧ y = x) := by
  by_cases hi : i < l.length
  · rw [List.getElem?_append_left hi] at h; exact .inl h
  · rw [List.getElem?_append_right (by omega)] at h
    have : i - l.length = 0 := by
      cases e : i - l.length with
      | zero => rfl
      | succ k => rw [e] at h; simp at h
    rw [this] at h
    simp at h
    exact .inr ⟨by omega, h.symm⟩
theorem get_snocL {α : Type} {l : List α} {x : α} {i : Nat} {y : α} (h : l[i]? = some y) : (l ++ [x])[i]? = some y := by
  rw [List.getElem?_append_left (List.getElem?_eq_some_iff.mp h).1]; exact h
theorem get_end {α : Type} {l : List α} {x : α} {n : Nat} (e : n = l.length) : (l ++ [x])[n]? = some x := by
  subst e
  rw [List.getElem?_append_right (Nat.le_refl _), Nat.sub_self]; rfl
theorem Rel.snoc (R : Rel M c F H σ env) (hF : F p = none) (r : ORep M F H p o) (hn : ¬ Own σ env p) (h0 : c.h₀ p = none) (hi : o.inn = []) : Rel M (c.cut σ.length) F H (σ ++ [some (.ref p)]) (env ++ [some (.ow o)]) := by
  have hl := R.len
  refine ⟨R.sub, by rw [List.length_append, List.length_append, hl]; rfl, fun i d h => ?_, fun i u h => ?_, fun i a C ks vs h => ?_, fun i j u u' b h1 h2 h3 h4 => ?_, fun i hi => ?_, R.old, fun i u b h hi hb => ?_, fun i u b h hb => ?_, R.oldN⟩
  · rcases get_snoc h with h | ⟨_, h⟩
    · obtain ⟨v, a, b⟩ := R.fz i d h
      exact ⟨v, get_snocL a, b⟩
    · cases h
  · rcases get_snoc h with h | ⟨e, h⟩
    · obtain ⟨q, a, b⟩ := R.ow i u h
      exact ⟨q, get_snocL a, b⟩
    · cases h
      exact ⟨p, get_end (by omega), hF, r⟩
  · rcases get_snoc h with h | ⟨_, h⟩
    · obtain ⟨a1, b⟩ := R.ex i a C ks vs h
      exact ⟨get_snocL a1, b⟩
    · cases h
  · rcases get_snoc h1 with h1 | ⟨e1, h1⟩ <;> rcases get_snoc h2 with h2 | ⟨e2, h2⟩
    · have l1 := (List.getElem?_eq_some_iff.mp h1).1
      have l2 := (List.getElem?_eq_some_iff.mp h2).1
      rw [List.getElem?_append_left (by omega)] at h3 h4
      exact R.sep i j u u' b h1 h2 h3 h4
    · have l1 := (List.getElem?_eq_some_iff.mp h1).1
      rw [List.getElem?_append_left (by omega)] at h3
      rw [get_end (by omega)] at h4
      cases h2
      obtain ⟨p', h4, h5⟩ := h4
      cases h4
      exact absurd ⟨i, u, h1, h3⟩ (hO hn hi _ h5)
    · have l2 := (List.getElem?_eq_some_iff.mp h2).1
      rw [List.getElem?_append_left (by omega)] at h4
      rw [get_end (by omega)] at h3
      cases h1
      obtain ⟨p', h3, h5⟩ := h3
      cases h3
      exact absurd ⟨j, u', h2, h4⟩ (hO hn hi _ h5)
    · omega
  · obtain ⟨h1, h2⟩ := List.mem_filter.mp hi
    rw [List.getElem?_append_left (of_decide_eq_true h2)]
    exact R.pin i h1
  · rcases get_snoc h with h | ⟨e, h⟩
    · have l1 := (List.getElem?_eq_some_iff.mp h).1
      rw [List.getElem?_append_left (by omega)] at hb
      refine R.fr i u b h (fun z => hi (List.mem_filter.mpr ⟨z, decide_eq_true (by omega)⟩)) hb
    · rw [get_end (by omega)] at hb
      cases hb
      exact h0
  · rcases get_snoc h with h | ⟨e, h⟩
    · exact R.frN i u b h hb
    · cases h
      rw [hi] at hb; cases hb
theorem Rel.unsnoc {F0 H0 : Hp} {env0 : En} {x : Option V} {y : Option Val} (R0 : Rel M c F0 H0 σ env0) (hl : env.length = σ.length) (R : Rel M (c.cut σ.length) F H (σ ++ [x]) (env ++ [y])) : Rel M c F H σ env := by
  have lt : ∀ {i : Nat} {z : Option Val}, env[i]? = some z → i < σ.length := fun h => by have := (List.getElem?_eq_some_iff.mp h).1; omega
  have dn : ∀ {i : Nat} {z : Option Val} {v : Option V}, env[i]? = some z → (σ ++ [x])[i]? = some v → σ[i]? = some v := fun h h2 => by rwa [List.getElem?_append_left (lt h)] at h2
  refine ⟨R.sub, hl, fun i d h => ?_, fun i u h => ?_, fun i a C ks vs h => ?_, fun i j u u' b h1 h2 h3 h4 => R.sep i j u u' b (get_snocL h1) (get_snocL h2) (h3.imp fun _ z => ⟨get_snocL z.1, z.2⟩) (h4.imp fun _ z => ⟨get_snocL z.1, z.2⟩), fun i hi => ?_, R.old, fun i u b h hi hb => R.fr i u b (get_snocL h) (fun z => hi (List.mem_filter.mp z).1) (get_snocL hb), fun i u b h hb => R.frN i u b (get_snocL h) hb, R.oldN⟩
  · obtain ⟨v, a, b⟩ := R.fz i d (get_snocL h)
    exact ⟨v, dn h a, b⟩
  · obtain ⟨q, a, b⟩ := R.ow i u (get_snocL h)
    exact ⟨q, dn h a, b⟩
  · obtain ⟨a1, b⟩ := R.ex i a C ks vs (get_snocL h)
    exact ⟨dn h a1, b⟩
  · exact R0.pin i hi
theorem slots_lt : ∀ {rs : List Rv} {args : List Val}, valL env rs = some args → ∀ i ∈ slotsOf rs, i < env.length
  | rs, args, h, i, hi => by
    obtain ⟨k, hk⟩ := slots_mem hi
    have hk' : k < args.length := by rw [valL_len h]; exact (List.getElem?_eq_some_iff.mp hk).1
    obtain ⟨r, h1, h2⟩ := valL_get h (List.getElem?_eq_getElem hk')
    rw [hk] at h1; cases h1
    by_cases hl : i < env.length
    · exact hl
    · have : env[i]? = none := List.getElem?_eq_none (by omega)
      simp only [valOf, this] at h2
      cases h2
theorem valOf_snoc {r : Rv} {a : Val} {y : Option Val} (h : valOf env r = some a) : valOf (env ++ [y]) r = some a := by
  cases r with
  | fz d => exact h
  | ow o => exact h
  | sl i =>
    cases he : env[i]? with
    | none => simp only [valOf, he] at h; cases h
    | some z =>
      simp only [valOf, get_snocL he]
      simp only [valOf, he] at h
      exact h
theorem valL_snoc {y : Option Val} : ∀ {rs : List Rv} {args : List Val}, valL env rs = some args → valL (env ++ [y]) rs = some args
  | [], _, h => by cases h; rfl
  | r :: rs, args, h => by
    unfold valL at h ⊢
    cases h1 : valOf env r with
    | none => rw [h1] at h; cases h
    | some a =>
      cases h2 : valL env rs with
      | none => rw [h1, h2] at h; cases h
      | some as => rw [h1, h2] at h; rw [valOf_snoc h1, valL_snoc h2]; exact h
theorem putL_snoc {y : Option Val} : ∀ {rs : List Rv} {as : List Val}, (∀ i ∈ slotsOf rs, i < env.length) → putL (env ++ [y]) rs as = putL env rs as ++ [y]
  | [], _, _ => by unfold putL; rfl
  | .fz _ :: rs, [], _ => rfl
  | .ow _ :: rs, [], _ => rfl
  | .sl _ :: rs, [], _ => rfl
  | .fz _ :: rs, a :: as, h => putL_snoc (rs := rs) (as := as) h
  | .ow _ :: rs, a :: as, h => putL_snoc (rs := rs) (as := as) h
  | .sl i :: rs, a :: as, h => by
    show (putL (env ++ [y]) rs as).set i (some a) = (putL env rs as).set i (some a) ++ [y]
    rw [putL_snoc (rs := rs) (as := as) fun j hj => h j (List.mem_cons_of_mem _ hj), List.set_append_left _ _ (by rw [putL_len]; exact h i List.mem_cons_self)]
theorem ops_snoc {M : Md} {F : Hp} {σ : St} {x : Option V} : ∀ {vs : List V} {rs : List Rv}, OpsOk M F σ vs rs → OpsOk M F (σ ++ [x]) vs rs
  | [], [], _ => True.intro
  | v :: vs, r :: rs, ⟨h, t⟩ => ⟨by
    cases r with
    | fz d => exact h
    | ow o => exact h
    | sl i => exact get_snocL h, ops_snoc t⟩
  | [], _ :: _, h => h.elim
  | _ :: _, [], h => h.elim
theorem own_snoc {σ : St} {env : En} {p : Addr} {o : O} {b : Addr} (hl : env.length = σ.length) (hi : o.inn = []) (h : Own (σ ++ [some (.ref p)]) (env ++ [some (.ow o)]) b) : Own σ env b ∨ b = p := by
  obtain ⟨i, u, h1, p', h2, h3⟩ := h
  rcases get_snoc h2 with h2 | ⟨e, h2⟩
  · have := (List.getElem?_eq_some_iff.mp h2).1
    rw [List.getElem?_append_left (by omega)] at h1
    exact .inl ⟨i, u, h1, p', h2, h3⟩
  · cases h2
    rw [e, get_end hl.symm] at h1
    cases h1
    exact .inr (h3.elim id fun z => by rw [hi] at z; cases z)
theorem own_snocL {σ : St} {env : En} {x : Option V} {y : Option Val} {b : Addr} (h : Own σ env b) : Own (σ ++ [x]) (env ++ [y]) b := by
  obtain ⟨i, u, h1, p', h2, h3⟩ := h
  exact ⟨i, u, get_snocL h1, p', get_snocL h2, h3⟩
end
section
variable {X : Cx} {c : Ct} {W : WX} {e : Expr} {es : List Expr} {w1 : EW} {wl : AW} {pos p : Pos} {x : Str} {k : Nat} {f : Addr} {fd : FuncData} {ps : List Str} {S : FSpec}
theorem callT_core (mS : MonoF S) (m1 : Mono w1) (ml : MonoA wl) {σ : St} {H : Hp} {Q : VK} (h : ERd (mdX X) c W (wCallT S w1 wl) σ H Q) :
    ERd (mdX X) c W w1 σ H fun y H1 => ARd (mdX X) c W wl σ H1 fun vs H2 => toSp (mdX X) S (y :: vs) H2 Q (WE W σ) := by
  obtain ⟨F, env, R, h⟩ := h
  refine ⟨F, env, R, m1.mo (fun r e1 ⟨o, hr, hn, z⟩ => ?_) (fun _ _ z => z) h⟩
  subst hr
  have hi : o.inn = [] := by cases o <;> first | rfl | exact absurd rfl (hn _)
  intro v F1 H1 R1 ev1 ok
  obtain ⟨p, rfl, a2, a3, a4', a5'⟩ := ok
  have a4 := a4' p .self
  have a5 := a5' p .self
  refine ⟨F1, e1, R1, ml.mo (fun rs e2 ⟨args, l, nd, q⟩ => ?_) (fun _ _ z => XPost.step ev1 z) z⟩
  intro vs F2 H2 R2 ev2 ok
  obtain ⟨u, hu⟩ := a3.there
  obtain ⟨k1, k2, k3⟩ := ev2.keepTemp hu a2 a4
  have r2 : ORep (mdX X) F2 H2 p o := a3.same ev2.fs (k1.trans hu.symm) (fun b hb => by rw [hi] at hb; cases hb)
  have R3 := R2.snoc k2 r2 k3 (R.new a5) hi
  have hsl := slots_lt l
  have ok3 : OpsOk (mdX X) F2 (σ ++ [some (.ref p)]) (.ref p :: vs) (.sl σ.length :: rs) := ⟨get_end rfl, ops_snoc ok⟩
  have l3 : valL (e2 ++ [some (.ow o)]) (.sl σ.length :: rs) = some (.ow o :: args) := by
    unfold valL
    rw [valL_snoc l]
    cases o <;> first | exact absurd rfl (hn _) | simp only [valOf, get_end R2.len.symm]
  have nd3 : (slotsOf (.sl σ.length :: rs)).Nodup := List.nodup_cons.mpr ⟨fun z => by have := hsl _ z; rw [R2.len] at this; omega, nd⟩
  have pe : ∀ a0 as', putL (e2 ++ [some (.ow o)]) (.sl σ.length :: rs) (a0 :: as') = putL e2 rs as' ++ [some a0] := fun a0 as' => by
    show (putL (e2 ++ [some (.ow o)]) rs as').set σ.length (some a0) = _
    rw [putL_snoc hsl, List.set_append_right _ _ (by rw [putL_len, R2.len]; exact Nat.le_refl _), putL_len, R2.len, Nat.sub_self]; rfl
  have ev3 : Evo (Own σ env) (Own (σ ++ [some (.ref p)]) (e2 ++ [some (.ow o)])) F H F2 H2 := by
    have e := ev1.trans ev2
    exact ⟨e.fs, e.fn, e.hk, e.ht, fun b hb => (own_snoc R2.len hi hb).elim (e.aa b) fun z => .inr (z ▸ a5)⟩
  refine ⟨F2, .ow o :: args, R3.toArgs ok3 l3 nd3, mS.mo (fun r args' ⟨a0, as', ea, bk, nsl, q⟩ => ?_) (fun xx args' ⟨a0, as', ea, bk, q⟩ => ?_) q⟩
  · subst ea
    intro v F' H' R' ev rv
    obtain ⟨R4, ev4, ow⟩ := R3.back ok3 l3 nd3 R' ev bk
    rw [pe] at R4 ev4 ow
    have ev5 : Evo (Own σ env) (Own σ (putL e2 rs as')) F H F' H' := (ev3.trans ev4).trans (Evo.sub fun b hb => own_snocL hb)
    refine q v F' H' (R2.unsnoc (by rw [putL_len]; exact R2.len) R4) ev5 ?_
    cases r with
    | fz d => exact rv
    | sl i => exact absurd rfl (nsl i)
    | ow o' =>
      obtain ⟨pp, b1, b2, b3, b4, b5⟩ := rv
      refine ⟨pp, b1, b2, b3, fun b hb z => ?_, fun b hb => (ev1.trans ev2).noneOf (b5 b hb)⟩
      rcases ow b (own_snocL z) with z | z
      · exact b4 b hb z
      · obtain ⟨u, hu⟩ := R3.own_some z
        rw [b5 b hb] at hu; cases hu
  · subst ea
    intro cl d F' H' R' ev xo
    obtain ⟨R4, ev4, _⟩ := R3.back ok3 l3 nd3 R' ev bk
    rw [pe] at R4 ev4
    exact q cl d F' H' (R2.unsnoc (by rw [putL_len]; exact R2.len) R4) ((ev3.trans ev4).trans (Evo.sub fun b hb => own_snocL hb)) xo
end
end LV
namespace LV
open PySem PySem.Spec L2
section
variable {X : Cx} {c : Ct} {W : WX} {e : Expr} {es : List Expr} {w1 : EW} {wl : AW} {pos p : Pos} {x : Str} {k j : Nat} {ps : List Str} {S : FSpec}
theorem se_callT (O : Ok X.prog X.w X.K X.mg X.base x ps k S) (mS : MonoF S) (tk : Takes X W) (hr : RoomG j X.A) (hg : Gl X x) (h1 : SE X c W e w1) (ha : SA X c W es wl) (hk : k ≤ j := by decide) (hdb : (x == ("__debug__" : Str)) = false := by decide)
    (he : starEach (e :: es) X.env = (false, eval e X.env) :: starEach es X.env := by rfl) (hpl : (backTo pos (starEach es X.env)).any (·.1) = false := by rfl) :
    SE X c W (.Call (.Name x p) (e :: es) [] pos) (wCallT S w1 wl) :=
  let ⟨_, _, F, hm, hkp, hb⟩ := O.ex
  ⟨PE.imp (pe_callG F (RoomG.mono hr hk) hg hm hkp hb (passAt tk) (pa_cons h1.pe ha.pa he) hdb he hpl) fun σ H Q h => callT_core mS h1.mo ha.mo h, .callT mS h1.mo ha.mo⟩
end
end LV
set_option maxHeartbeats 400000
namespace LV
open PySem PySem.Spec PyProof.Rows L2
def wPinS (i : Nat) (s : SW) : SW := fun K env => (∃ o, env[i]? = some (some (.ow o))) ∧ s K env
theorem MonoS.pin {i : Nat} {s : SW} (m : MonoS s) : MonoS (wPinS i s) := ⟨fun k ⟨a, q⟩ => ⟨a, m.mo k q⟩⟩
theorem ss_pin {X : Cx} {c : Ct} {W : WX} {st : Stmt} {s : SW} (i : Nat) (h : ∀ σ₀, SS X (pinC c i σ₀) W st s) : SS X c W st (wPinS i s) := by
  have mo := (h []).mo
  refine ⟨⟨fun pins s' σ H D I q => ?_⟩, .pin mo⟩
  obtain ⟨F, env, R, ho, q⟩ := q
  refine (h σ).ps.run pins s' σ H D I ⟨F, env, R.pinD, mo.mo ⟨fun e z => ?_, fun r e z => ?_, fun e z => ?_, fun e z => ?_, fun x e z => ?_⟩ q⟩
  · exact fun σ' F' H' R' ev => z σ' F' H' (R.unpin ho R') ev
  · exact fun v σ' F' H' R' ev ok => z v σ' F' H' (R.unpin ho R') ev (by cases r <;> exact ok)
  · exact fun σ' F' H' R' ev => z σ' F' H' (R.unpin ho R') ev
  · exact fun σ' F' H' R' ev => z σ' F' H' (R.unpin ho R') ev
  · exact fun cl d σ' F' H' R' ev ok => z cl d σ' F' H' (R.unpin ho R') ev ok
end LV
set_option maxHeartbeats 1000000
namespace LV
open PySem PySem.Spec PyProof.Rows L2
def isBV (b : Bool) : V → Bool
  | .bl a => a == b
  | _ => false
def isB (b : Bool) : D → Bool
  | .bl a => a == b
  | _ => false
section
variable {X : Cx}
theorem notSame_B {M : Model} {A : Around} {E : Value → Shared → Prop} {s : Shared} {x : V} {u : Value} {b : Bool} {R : Value → Shared → Prop} (r : RelV x u) (q : R (.bool (!isBV b x)) s) : wpAny M A (compareOp .IsNot u (.bool b)) R E s := by
  cases x with
  | bl a =>
    cases (show u = Value.bool a from r)
    by_cases e : a = b
    · subst e
      refine wpAny_isNot_self rfl ?_
      rwa [show isBV a (.bl a) = true from beq_self_eq_true a] at q
    · refine wpAny_isNot_other rfl (fun z => e (Value.bool.inj z)) ?_
      rwa [show isBV b (.bl a) = false from beq_eq_false_iff_ne.mpr e] at q
  | ref a => cases r; exact wpAny_isNot_other rfl (fun z => nomatch z) q
  | non => cases r; exact wpAny_isNot_other rfl (fun z => nomatch z) q
  | int i => obtain ⟨t, rfl⟩ := r; exact wpAny_isNot_other rfl (fun z => nomatch z) q
  | str x => obtain ⟨t, rfl⟩ := r; exact wpAny_isNot_other rfl (fun z => nomatch z) q
  | byt x => obtain ⟨t, rfl⟩ := r; exact wpAny_isNot_other rfl (fun z => nomatch z) q
  | flt x => obtain ⟨t, rfl⟩ := r; exact wpAny_isNot_other rfl (fun z => nomatch z) q
  | ty n => cases r; exact wpAny_isNot_other rfl (fun z => nomatch z) q
theorem op_isnB : OpR X (compareOp .IsNot) (fun x y H Q => ∃ b, y = .bl b ∧ Q (.bl (!isBV b x)) H) := by
  intro pins s σ H x y v u Q I rx ry h
  obtain ⟨b, rfl, q⟩ := h
  cases (show u = Value.bool b from ry)
  exact notSame_B rx ⟨.bl _, H, I, rfl, q⟩
theorem isB_vw {M : Md} {F H : Hp} {v : V} {d : D} {b : Bool} (h : Vw M F H v d) : isBV b v = isB b d := by
  cases d with
  | non => cases h; rfl
  | bl b => cases h; rfl
  | int b => cases h; rfl
  | str b => cases h; rfl
  | tup ds => obtain ⟨a, xs, rfl, _⟩ := h; rfl
  | lst ds => obtain ⟨a, xs, rfl, _⟩ := h; rfl
  | scr ds => obtain ⟨a, rfl, _⟩ := h; rfl
  | dct ks ds => obtain ⟨a, rfl, _⟩ := h; rfl
  | ins C ks ds => obtain ⟨a, rfl, _⟩ := h; rfl
  | cls C => obtain ⟨a, rfl, _⟩ := h; rfl
  | ptr a => cases (show v = .ref a from h); rfl
  | exn C ks ds => obtain ⟨a, c, rfl, _⟩ := h; rfl
  | tpn C => obtain ⟨a, o, xs, rfl, _⟩ := h; rfl
def gIsNotB : G2 := fun a b Q => ∃ k, b = .bl k ∧ Q (.fz (.bl (!isB k a)))
theorem vr_isNotB : VR2 X (compareOp .IsNot) gIsNotB :=
  .of op_isnB ⟨fun h ⟨k, a, q⟩ => ⟨k, a, h _ q⟩⟩ fun F da db x y H Qv sm vx vy ⟨k, h1, q⟩ => by
    subst h1; exact ⟨k, vy, by rw [isB_vw vx]; exact q.here sm (.bl _)⟩
end
end LV
namespace LV
open PySem PySem.Spec L2
end LV
namespace LV
open PySem PySem.Spec L2
end LV
set_option maxHeartbeats 400000
namespace LV
open PySem PySem.Spec L2
end LV
set_option maxHeartbeats 1000000
namespace LV
open PySem PySem.Spec PySem.W L2
end LV
namespace LV
open PySem PySem.Spec L2
end LV
set_option maxHeartbeats 400000
namespace LV
open PySem PySem.Spec L2
end LV
set_option maxHeartbeats 4000000
namespace LV
open PySem PySem.Spec PySem.W L2
end LV
set_option maxHeartbeats 2000000
namespace LV
open PySem PySem.Spec PySem.W L2
end LV
set_option maxHeartbeats 1000000
namespace LV
open PySem PySem.Spec L2
theorem op_mulX {X : Cx} : OpR X (binaryOp .Mult) (fun x y H Q => ∃ s k, x = .str s ∧ y = .int k ∧ MulOk s k ∧ Q (.str (Txt.mul s k)) H) := by
  intro pins s σ H x y v u Q I rx ry h
  obtain ⟨i, j, rfl, rfl, hz, q⟩ := h
  obtain ⟨t, rfl⟩ := rx
  obtain ⟨t', rfl⟩ := ry
  exact SB.mul hz (fun t' tk => ⟨.str (Txt.mul i j), H, I.tok _, ⟨_, rfl⟩, q⟩)
end LV
set_option maxHeartbeats 400000
namespace LV
open PySem PySem.Spec L2
end LV
namespace LV
open PySem PySem.Spec L2
def NI.pt : NI → D
  | .d x => x
  | .l q _ => .ptr q
  | .t q _ _ => .ptr q
section
variable {M : Md} {c : Ct} {F H F' H' : Hp} {σ : St} {env : En}
theorem NRepL.ptr : ∀ {vs : List V} {xs : List NI}, NRepL M F H vs xs → RepL M F vs (xs.map NI.pt)
  | _, _, .nil => .nil
  | _, _, .d h tl => .cons h (NRepL.ptr tl)
  | _, _, .l _ _ _ tl => .cons .ptr (NRepL.ptr tl)
  | _, _, .t _ _ tl => .cons .ptr (NRepL.ptr tl)
theorem NRepL.getD : ∀ {vs : List V} {xs : List NI} {k : Nat} {y : D}, NRepL M F H vs xs → xs[k]? = some (.d y) → ∃ v, vs[k]? = some v ∧ Rep M F v y
  | _, _, k, y, .nil, h => by simp at h
  | _, _, 0, y, .d r tl, h => by simp at h; subst h; exact ⟨_, rfl, r⟩
  | _, _, 0, y, .l f hh r tl, h => by simp at h
  | _, _, 0, y, .t f hh tl, h => by simp at h
  | _, _, k + 1, y, .d r tl, h => NRepL.getD (k := k) tl (by simpa using h)
  | _, _, k + 1, y, .l f hh r tl, h => NRepL.getD (k := k) tl (by simpa using h)
  | _, _, k + 1, y, .t f hh tl, h => NRepL.getD (k := k) tl (by simpa using h)
end
section
variable {X : Cx} {c : Ct} {W : WX} {e : Expr} {w : EW} {pos : Pos} {es : List Expr}
def wIxN (i k : Nat) : EW := fun env Q _ => ∃ xs d, env[i]? = some (some (.ow (.nst xs))) ∧ xs[k]? = some (.d d) ∧ Q (.fz d) env
theorem Mono.ixN {i k : Nat} : Mono (wIxN i k) := ⟨fun hQ _ ⟨xs, d, a, b, q⟩ => ⟨xs, d, a, b, hQ _ _ q⟩⟩
abbrev NAW := En → (List NI → En → Prop) → XW → Prop
structure MonoN (w : NAW) : Prop where
  mo : ∀ {env : En} {Q Q' : List NI → En → Prop} {E E' : XW}, (∀ r e, Q r e → Q' r e) → (∀ x e, E x e → E' x e) → w env Q E → w env Q' E'
variable {wl : NAW}
def wNst (wl : NAW) : EW := fun env Q E => wl env (fun xs e => xs.length ≤ sizeLine ∧ Q (.ow (.nst xs)) e) E
theorem Mono.nst (m : MonoN wl) : Mono (wNst wl) := ⟨fun hQ hE h => m.mo (fun xs e ⟨z, q⟩ => ⟨z, hQ _ _ q⟩) hE h⟩
end
end LV
namespace LV
open PySem PySem.Spec L2
end LV
set_option maxHeartbeats 1000000
namespace LV
open PySem PySem.Spec L2
/-- the message's parts fit -/
def okMsg (c1 c2 c3 s t : Str) : Prop := (Str.empty ++ c1).length ≤ sizeLine ∧ (Str.empty ++ c1 ++ s).length ≤ sizeLine ∧ (Str.empty ++ c1 ++ s ++ c2).length ≤ sizeLine ∧ (Str.empty ++ c1 ++ s ++ c2 ++ t).length ≤ sizeLine ∧ (Str.empty ++ c1 ++ s ++ c2 ++ t ++ c3).length ≤ sizeLine
def spX2 (C : Addr) (f g c1 c2 c3 : Str) : Sp := fun vs H Q _ => ∃ (a : Addr) (s : Str) (i : Int), vs = [.ref a, .str s, .int i] ∧ H a = some (exo a C none) ∧ s.length ≤ sizeLine ∧ i.natAbs.log2 < 1920 ∧ okMsg c1 c2 c3 s (toString i) ∧
  ∀ d, H d = none → d ≠ a → Q .non (upd (upd H d (exd d [(g, .int i), (f, .str s)])) a (exo a C (some d)))
structure XC2 (P : Program) (w : World) (K : PySem.W.Frag) (mg : Str → Option Value) (base : Heap) (Cn f g c1 c2 c3 : Str) : Prop where
  ex : ∃ (C fI : Addr) (fd : FuncData) (p q : Str), mg Cn = some (.ref C) ∧ OexC K C ∧ PySem.W.findIn K (.ref C) "__init__" = some (some (.ref fI)) ∧ PySem.W.typeIn K (.ref fI) = some (.type "function") ∧
    FnOk P w K mg base (L2.CX P w) 1 fI fd ["self", p, q] (spX2 C f g c1 c2 c3) ∧ Binds K fd ["self", p, q] []
end LV
namespace LV
open PySem PySem.Spec L2
def okMsg1 (c1 c2 s : Str) : Prop := (Str.empty ++ c1).length ≤ sizeLine ∧ (Str.empty ++ c1 ++ s).length ≤ sizeLine ∧ (Str.empty ++ c1 ++ s ++ c2).length ≤ sizeLine
def spX1F (C : Addr) (f c1 c2 : Str) : Sp := fun vs H Q _ => ∃ (a : Addr) (s : Str), vs = [.ref a, .str s] ∧ H a = some (exo a C none) ∧ s.length ≤ sizeLine ∧ okMsg1 c1 c2 s ∧
  ∀ d, H d = none → d ≠ a → Q .non (upd (upd H d (exd d [(f, .str s)])) a (exo a C (some d)))
structure XC1F (P : Program) (w : World) (K : PySem.W.Frag) (mg : Str → Option Value) (base : Heap) (Cn f c1 c2 : Str) : Prop where
  ex : ∃ (C fI : Addr) (fd : FuncData) (p : Str), mg Cn = some (.ref C) ∧ OexC K C ∧ PySem.W.findIn K (.ref C) "__init__" = some (some (.ref fI)) ∧ PySem.W.typeIn K (.ref fI) = some (.type "function") ∧
    FnOk P w K mg base (L2.CX P w) 1 fI fd ["self", p] (spX1F C f c1 c2) ∧ Binds K fd ["self", p] []
end LV
namespace LV
open PySem PySem.Spec PySem.W L2
structure XCls2 (P : Program) (w : World) (K : PySem.W.Frag) (mg : Str → Option Value) (base : Heap) (Cn f g c1 c2 c3 : Str) : Prop where
  ex : ∃ (C fI : Addr) (fd : FuncData) (p q : Str), mg Cn = some (.ref C) ∧ (OexC K C ∧ XfC K C ∧ PySem.W.findIn K (.ref C) f = some none ∧ PySem.W.findIn K (.ref C) g = some none) ∧ PySem.W.findIn K (.ref C) "__init__" = some (some (.ref fI)) ∧ PySem.W.typeIn K (.ref fI) = some (.type "function") ∧
    FnOk P w K mg base (L2.CX P w) 1 fI fd ["self", p, q] (spX2 C f g c1 c2 c3) ∧ Binds K fd ["self", p, q] []
structure XCls1F (P : Program) (w : World) (K : PySem.W.Frag) (mg : Str → Option Value) (base : Heap) (Cn f c1 c2 : Str) : Prop where
  ex : ∃ (C fI : Addr) (fd : FuncData) (p : Str), mg Cn = some (.ref C) ∧ (OexC K C ∧ XfC K C ∧ PySem.W.findIn K (.ref C) f = some none) ∧ PySem.W.findIn K (.ref C) "__init__" = some (some (.ref fI)) ∧ PySem.W.typeIn K (.ref fI) = some (.type "function") ∧
    FnOk P w K mg base (L2.CX P w) 1 fI fd ["self", p] (spX1F C f c1 c2) ∧ Binds K fd ["self", p] []
section
variable {P : Program} {w : World} {K : PySem.W.Frag} {mg : Str → Option Value} {base h : Heap}
theorem XCls2.xc {Cn f g c1 c2 c3 : Str} (T : XCls2 P w K mg base Cn f g c1 c2 c3) : XC2 P w K mg base Cn f g c1 c2 c3 :=
  let ⟨C, fI, fd, p, q, h1, ⟨h2, _⟩, h3, h4, h5, h6⟩ := T.ex
  ⟨C, fI, fd, p, q, h1, h2, h3, h4, h5, h6⟩
theorem XCls1F.xc {Cn f c1 c2 : Str} (T : XCls1F P w K mg base Cn f c1 c2) : XC1F P w K mg base Cn f c1 c2 :=
  let ⟨C, fI, fd, p, h1, ⟨h2, _⟩, h3, h4, h5, h6⟩ := T.ex
  ⟨C, fI, fd, p, h1, h2, h3, h4, h5, h6⟩
end
end LV
set_option maxHeartbeats 400000
namespace LV
open PySem PySem.Spec L2
theorem valL_fz {env : En} : ∀ ds : List D, valL env (ds.map .fz) = some (ds.map Val.fz)
  | [] => rfl
  | d :: ds => by
    rw [List.map_cons, List.map_cons]
    simp only [valL, valOf, valL_fz ds]
theorem slots_fz : ∀ ds : List D, slotsOf (ds.map .fz) = []
  | [] => rfl
  | d :: ds => slots_fz ds
theorem putL_fz {env : En} : ∀ (ds : List D) (as : List Val), putL env (ds.map .fz) as = env
  | [], _ => by unfold putL; rfl
  | d :: ds, [] => rfl
  | d :: ds, a :: as => putL_fz ds as
end LV
namespace LV
open PySem PySem.Spec L2
end LV
namespace LV
open PySem PySem.Spec L2
structure EvR (env : En) (w : EW) (r : Rv) (env' : En) : Prop where
  go : ∀ {Q : Rv → En → Prop} {E : XW}, Q r env' → w env Q E
structure Ev (env : En) (w : EW) (d : D) (env' : En) : Prop where
  go : ∀ {Q : Rv → En → Prop} {E : XW}, Q (.fz d) env' → wFz w env Q E
structure EvL (env : En) (wl : AW) (ds : List D) (env' : En) : Prop where
  go : ∀ {Q : List Rv → En → Prop} {E : XW}, Q (ds.map .fz) env' → wl env Q E
structure EvT (env : En) (u : TW) (b : Bool) (env' : En) : Prop where
  go : ∀ {Q : Bool → En → Prop} {E : XW}, Q b env' → u env Q E
section
variable {env e1 e2 e3 : En} {w wa wb wc : EW} {wl : AW} {d a b c : D} {r : Rv} {ds : List D} {o : O} {i n : Nat} {u v : TW} {k l : Bool} {S : FSpec} {tbl : List (Str × FSpec)} {C m : Str} {ks : List Str} {vs : List D} {x : Xn}
theorem EvR.ev (h : EvR env w r e1) (e : r.frz = .fz d) : Ev env w d e1 := ⟨fun {Q E} q => h.go (Q := fun r e => Q r.frz e) (by rw [e]; exact q)⟩
theorem EvR.fz (h : EvR env w (.fz d) e1) : Ev env w d e1 := h.ev rfl
theorem EvR.ow (h : EvR env w (.ow o) e1) : Ev env w o.d e1 := h.ev rfl
theorem evl_nil : EvL env wNil [] env := ⟨fun q => q⟩
theorem evl_cons (h : Ev env w d e1) (t : EvL e1 wl ds e2) : EvL env (wCons w wl) (d :: ds) e2 := ⟨fun q => h.go (t.go q)⟩
theorem ev_frz (h : Ev env w d e1) : EvR env (wFrz w) (.fz d) e1 := ⟨fun q => h.go ⟨d, _, rfl, q⟩⟩
theorem ev_frzs (h : env[i]? = some (some (.ow o))) : EvR env (wFrz (wVar i)) (.fz o.d) (env.set i (some (.fz o.d))) := ⟨fun {Q E} q => by
  simp only [wFrz, wFz, wVar, h]
  exact ⟨o.d, _, by simp only [Rv.frz, frz1, h], q⟩⟩
theorem ev_var (h : env[i]? = some (some (.fz d))) : EvR env (wVar i) (.fz d) env := ⟨fun {Q E} q => by
  simp only [wVar, h]; exact q⟩
theorem vx (i : Nat) {env : En} {d : D} (h : env[i]? = some (some (.fz d))) : Ev env (wVar i) d env := (ev_var h).fz
theorem fx (i : Nat) {env : En} {d : D} (h : env[i]? = some (some (.fz d))) : Ev env (wFrz (wVar i)) d env := (ev_frz (vx i h)).fz
theorem ev_c : EvR env (wC d) (.fz d) env := ⟨fun q => q⟩
theorem cx {env : En} {d : D} : Ev env (wC d) d env := ev_c.fz
theorem ev_op {g : G2} (ha : Ev env wa a e1) (hb : Ev e1 wb b e2) (hg : ∀ Q' : Rv → Prop, Q' r → g a b Q') : EvR env (wOp2 g wa wb) r e2 := ⟨fun q => ha.go (hb.go ⟨a, b, rfl, rfl, hg _ q⟩)⟩
theorem backOk_fz : ∀ ds : List D, backOk (ds.map .fz) (ds.map .fz) = true
  | [] => rfl
  | _ :: ds => backOk_fz ds
theorem ev_call (hl : EvL env wl ds e1) (hS : ∀ {Q' : Rv → List Val → Prop} {E' : Xn → List Val → Prop}, Q' r (ds.map .fz) → S (ds.map .fz) Q' E') (hr : ∀ i, r ≠ .sl i) : EvR env (wCall S wl) r e1 := ⟨fun {Q E} q => by
  unfold wCall
  exact hl.go ⟨_, valL_fz ds, by rw [slots_fz]; exact List.nodup_nil, hS ⟨backOk_fz ds, hr, by rw [putL_fz]; exact q⟩⟩⟩
theorem frzL_fz' {e : En} : ∀ ds : List D, frzL e (ds.map Rv.fz) = some (ds, e)
  | [] => rfl
  | d :: ds => by
    show (match frzL e (ds.map Rv.fz) with | none => none | some (ds, e2) => some (d :: ds, e2)) = some (d :: ds, e)
    rw [frzL_fz' ds]
theorem ev_tup (hl : EvL env wl ds e1) (hz : ds.length ≤ sizeLine) : EvR env (wTup wl) (.fz (.tup ds)) e1 := ⟨fun q => hl.go ⟨ds, e1, frzL_fz' ds, hz, q⟩⟩
theorem ev_lst (hl : EvL env wl ds e1) (hz : ds.length ≤ sizeLine) : EvR env (wLst wl) (.ow (.lst ds)) e1 := ⟨fun q => hl.go ⟨ds, e1, frzL_fz' ds, hz, q⟩⟩
theorem lookL_fz {e : En} : ∀ ds : List D, lookL e (ds.map Rv.fz) = some ds
  | [] => rfl
  | d :: ds => by
    show (match look e (.fz d), lookL e (ds.map Rv.fz) with | some d, some ds => some (d :: ds) | _, _ => none) = some (d :: ds)
    rw [lookL_fz ds]; rfl
theorem ev_blt {g : GL} (hl : EvL env wl ds e1) (hg : ∀ Q' : Rv → Prop, Q' r → g ds Q') : EvR env (wBlt g wl) r e1 := ⟨fun q => hl.go ⟨ds, lookL_fz ds, hg _ q⟩⟩
/-- a built-in over a name that owns -/
theorem ev_bltS {g : GL} (h : env[i]? = some (some (.ow o))) (hg : ∀ Q' : Rv → Prop, Q' r → g [o.d] Q') (hn : ∀ xs, o ≠ .nst xs := by intro _ z; cases z) : EvR env (wBlt g (wCons (wVar i) wNil)) r env := ⟨fun {Q E} q => by
  simp only [wBlt, wCons, wFz, wVar, h, wNil]
  refine ⟨[o.d], ?_, hg _ q⟩
  cases o <;> first | exact absurd rfl (hn _) | simp only [Rv.frz, lookL, look, h]⟩
theorem ev_lc {tg : Tg} {pn : List Nat} {xs acc : List D} {sl : List Nat} (hi : EvR env wa (.fz d) e1) (hx : itemsD d = some xs) (hc : ∀ Q : List D → En → Prop, Q acc e2 → compW tg u w sl yesK Q xs [] (wipeE e1 sl)) : EvR env (wLc tg (wIt pn wa) u w sl) (.ow (.lst acc)) e2 := ⟨fun q => hi.go ⟨xs, hx, hc _ q⟩⟩
theorem ev_lcR {tg : Tg} {n : Nat} {acc : List D} {sl : List Nat} (hl : EvL env wl [.int (n : Int)] e1) (hn : n ≤ 1000000) (hc : ∀ Q : List D → En → Prop, Q acc e2 → compW tg u w sl yesK Q (rngD 0 n) [] (wipeE e1 sl)) : EvR env (wLc tg (wRng1 wl) u w sl) (.ow (.lst acc)) e2 := ⟨fun q => hl.go ⟨(n : Int), rfl, by unfold okR; omega, by rw [Int.toNat_natCast]; exact hc _ q⟩⟩
theorem ev_and_t (ha : EvR env wa (.fz (.bl true)) e1) (hb : EvR e1 wb r e2) : EvR env (wAnd wa wb) r e2 := ⟨fun q => ha.go ⟨true, rfl, by rw [if_pos rfl]; exact hb.go q⟩⟩
theorem ev_not (ha : EvR env wa (.fz (.bl k)) e1) : EvR env (wNot wa) (.fz (.bl (!k))) e1 := ⟨fun q => ha.go ⟨k, rfl, q⟩⟩
theorem evt_B (h : EvR env w (.fz (.bl k)) e1) : EvT env (wB w) k e1 := ⟨fun q => h.go ⟨k, rfl, q⟩⟩
theorem evt_tru (h : Ev env w d e1) (t : truD d k) : EvT env (wTru w) k e1 := ⟨fun q => h.go ⟨d, k, rfl, t, q⟩⟩
theorem evt_trub (h : EvR env w (.fz (.bl k)) e1) : EvT env (wTru w) k e1 := evt_tru h.fz rfl
theorem evt_not (h : EvT env u k e1) : EvT env (wtNot u) (!k) e1 := ⟨fun q => h.go q⟩
theorem evt_and_t (h : EvT env u true e1) (t : EvT e1 v k e2) : EvT env (wtAnd u v) k e2 := ⟨fun q => h.go (by rw [if_pos rfl]; exact t.go q)⟩
theorem evt_and_f (h : EvT env u false e1) : EvT env (wtAnd u v) false e1 := ⟨fun q => h.go (by rw [if_neg Bool.false_ne_true]; exact q)⟩
theorem evt_or_f (h : EvT env u false e1) (t : EvT e1 v k e2) : EvT env (wtOr u v) k e2 := ⟨fun q => h.go (by rw [if_neg Bool.false_ne_true]; exact t.go q)⟩
variable {K : Ks} {s t : SW} {pn : List Nat}
theorem run_set (h : EvR env w (.fz d) e1) (q : K.nx (e1.set i (some (.fz d)))) : wSet i w K env := h.go q
theorem run_setO (h : EvR env w (.ow o) e1) (q : K.nx (e1.set i (some (.ow o)))) : wSet i w K env := h.go q
theorem run_if_t (h : EvT env u true e1) (q : s K e1) : wIf u s t K env := h.go (by rw [if_pos rfl]; exact q)
theorem run_if_f (h : EvT env u false e1) (q : t K e1) : wIf u s t K env := h.go (by rw [if_neg Bool.false_ne_true]; exact q)
theorem run_ret (h : EvR env w (.fz d) e1) (q : K.rt (.fz d) e1) : wRet pn w K env := h.go q
theorem run_retO (h : EvR env w (.ow o) e1) (q : K.rt (.ow o) e1) : wRet pn w K env := h.go q
end
end LV
namespace LV
open PySem PySem.Spec L2
def TKey (d : D) : Prop := ∃ x, d = .str x
def valT (x : Str) : List D → List D → Option D
  | .str y :: ks, d :: ds => if y = x then some d else valT x ks ds
  | _ :: ks, _ :: ds => valT x ks ds
  | _, _ => none
section
variable {M : Md} {F H : Hp} {p : Addr} {ks ds : List D}
theorem DRep.text (h : DRep M F H p ks ds) (hk : ∀ k ∈ ks, TKey k) : ∃ kv : List (Key × V), H p = some (.dK kv) ∧ kv.map (fun p => kD p.1) = ks ∧ RepL M F (kv.map (·.2)) ds := by
  rcases h with h | ⟨xs, vs, h1, h2, h3, h4, h5, h6⟩
  · exact h
  · exfalso
    cases xs with
    | nil => exact h3.2 rfl
    | cons x xs =>
      subst h2
      obtain ⟨y, hy⟩ := hk _ List.mem_cons_self
      cases h4 with
      | cons r _ =>
        rw [hy] at r
        cases r
end
def gGetT : G2 := fun a b Q => match a, b with
  | .dct ks ds, .str x => (∀ k ∈ ks, TKey k) ∧ ∃ d, valT x ks ds = some d ∧ Q (.fz d)
  | _, _ => False
theorem Mono2.getT : Mono2 gGetT := ⟨fun {a b Q Q'} h q => by
  unfold gGetT at q ⊢
  split at q
  · obtain ⟨k, d, e, q⟩ := q; exact ⟨k, d, e, h _ q⟩
  · exact q⟩
end LV
set_option maxHeartbeats 1000000
namespace LV
open PySem PySem.Spec L2
end LV
namespace LV
open PySem PySem.Spec L2
end LV
set_option maxHeartbeats 400000
namespace LV
open PySem PySem.Spec L2
/-- a comprehension whose parts change nothing -/
theorem cw_fm {tg : Tg} {u : TW} {w : EW} {vs : List Nat} {keep : KeepE} {Q : List D → En → Prop} {env : En} (p : D → Bool) (f : D → D) (hk : keep env) : ∀ (ds acc : List D),
    (∀ d ∈ ds, ∃ e1, bindT tg d env = some e1 ∧ wipeE e1 vs = env ∧ (∀ G : Bool → En → Prop, G (p d) e1 → u e1 G X0) ∧ (p d = true → ∀ G : Rv → En → Prop, G (.fz (f d)) e1 → wFz w e1 G X0)) →
    acc.length + ds.length < sizeLine → Q (acc ++ (ds.filter p).map f) env → compW tg u w vs keep Q ds acc env
  | [], acc, _, _, q => ⟨hk, by simpa using q⟩
  | d :: ds, acc, h, hl, q => by
    obtain ⟨e1, h1, h2, h3, h4⟩ := h d List.mem_cons_self
    rw [List.length_cons] at hl
    refine ⟨hk, e1, h1, h3 _ ?_⟩
    cases hp : p d with
    | true =>
      rw [if_pos rfl]
      refine h4 hp _ ⟨f d, e1, rfl, by omega, ?_⟩
      rw [h2]
      refine cw_fm p f hk ds _ (fun x hx => h x (List.mem_cons_of_mem _ hx)) (by rw [List.length_append, List.length_singleton]; omega) ?_
      rw [List.filter_cons_of_pos hp, List.map_cons] at q
      rw [List.append_assoc]; exact q
    | false =>
      rw [if_neg Bool.false_ne_true]
      show compW tg u w vs keep Q ds acc (wipeE e1 vs)
      rw [h2]
      refine cw_fm p f hk ds _ (fun x hx => h x (List.mem_cons_of_mem _ hx)) (by omega) ?_
      rw [List.filter_cons_of_neg (by rw [hp]; exact Bool.false_ne_true)] at q
      exact q
theorem rng_eq : ∀ (n : Nat) (lo : Int), rngD lo n = (List.range n).map fun k : Nat => D.int (lo + k)
  | 0, lo => rfl
  | n + 1, lo => by
    rw [rngD, rng_eq n, List.range_succ_eq_map, List.map_cons, List.map_map]
    congr 1
    · simp
    · apply List.map_congr_left
      intro k _
      simp only [Function.comp]
      congr 1
      omega
theorem at_nat {α : Type} {l : List α} {k : Nat} {x : α} (h : l[k]? = some x) : L2.atI l (k : Int) = some x := by
  have hk := (List.getElem?_eq_some_iff.mp h).1
  unfold L2.atI L2.ixN
  rw [if_pos (by omega), if_pos (by omega)]
  exact h
end LV
set_option maxHeartbeats 1000000
namespace LV
open PySem PySem.Spec L2
end LV
namespace LV
open PySem PySem.Spec L2
end LV
namespace LV
open PySem PySem.Spec L2
end LV
set_option maxHeartbeats 4000000
namespace LV
open PySem PySem.Spec PySem.W L2
structure SEA (X : Cx) (cd : Code) (c : Ct) (W : WX) (e : Expr) (w : EW) : Prop where
  run : ∀ (pins : List (Addr × Obj)) (s : Shared) (σ : L2.St) (H : Hp) (Q : VK), L2.Inv X pins σ H s → ERd (mdX X) c W w σ H Q → wpAt (model X.prog X.w) X.A cd (eval e X.env) (EP X pins σ Q) X.xe s
  mo : Mono w
end LV
namespace LV
open PySem PySem.Spec PySem.W L2
section
variable {X : Cx} {cd : Code} {c : Ct} {W : WX} {a b e : Expr} {wa wb w : EW} {pos : Pos} {g : G2} {op : Operator} {st : Stmt} {rest : List Stmt} {s1 s2 : SW}
theorem SEA.of (h : SE X c W e w) : SEA X cd c W e w := ⟨fun pins s σ H Q I q => wpAt_of_wpAny (h.pe.run pins s σ H Q I q), h.mo⟩
end
end LV
namespace LV
open PySem PySem.Spec PySem.W L2
end LV
namespace LV
open PySem PySem.Spec PySem.W L2
end LV
set_option maxHeartbeats 1000000
namespace LV
open PySem PySem.Spec PySem.W L2
end LV
namespace LV
open PySem PySem.Spec L2
end LV
set_option maxHeartbeats 400000
namespace LV
open PySem PySem.Spec L2
end LV
set_option maxHeartbeats 1000000
namespace LV
open PySem PySem.Spec PyProof.Rows L2
end LV
namespace LV
open PySem PySem.Spec L2
def wSplit (wo we : EW) : EW := fun env Q E => wFz wo env (fun r e1 => ∃ a, r = .fz (.str a) ∧ wFz we e1 (fun r2 e2 => ∃ b : Str, r2 = .fz (.str b) ∧ (b.length == 0) = false ∧ a.length + 2 ≤ sizeLine ∧ Q (.ow (.lst ((Txt.split a b).map D.str))) e2) E) E
theorem Mono.split {wo we : EW} (mo : Mono wo) (me : Mono we) : Mono (wSplit wo we) := ⟨fun hQ hE h => mo.fz.mo (fun r e1 ⟨a, b, q⟩ => ⟨a, b, me.fz.mo (fun r2 e2 ⟨y, l, s, s2, z⟩ => ⟨y, l, s, s2, hQ _ _ z⟩) hE q⟩) hE h⟩
end LV
namespace LV
open PySem PySem.Spec L2
def kvKey (p : Str × Int) : Key × V := (.inr p.1, .int p.2)
section
variable {P : Program} {w : World} {K : PySem.W.Frag} {h : Heap} {mg : Str → Option Value}
inductive DE (w : World) : List DictEntry → List (Str × Int) → Prop
  | nil : DE w [] []
  | cons {x : Str} {t t' : Tok} {n : Int} {es : List DictEntry} {kvs : List (Str × Int)} : DE w es kvs → DE w (⟨PyData.keyHash w.params x, .str x t, .int n t'⟩ :: es) ((x, n) :: kvs)
end
end LV
namespace LV
open PySem PySem.Spec L2
end LV
namespace LV
open PySem PySem.Spec L2
end LV
namespace LV
open PySem PySem.Spec L2
end LV
namespace LV
open PySem PySem.Spec L2
section
variable {P : Program} {w : World} {K : PySem.W.Frag} {h : Heap} {mg : Str → Option Value}
theorem DE.all {es : List DictEntry} {kvs : List (Str × Int)} (d : DE w es kvs) : ∃ vs : List (Key × Value), KV (kvs.map kvKey) vs ∧ (∀ e ∈ es, ∃ k, keyIs k e.key = true ∧ e.hash = keyH w k) ∧ Pairs (mixKind P w) es vs ∧ vs.map (·.1) = (kvs.map (·.1)).map Sum.inr := by
  induction d with
  | nil => exact ⟨[], .nil, fun e h => (nomatch h), .nil, rfl⟩
  | @cons x t t' n es kvs d ih =>
    obtain ⟨vs, k1, k2, k3, k4⟩ := ih
    refine ⟨(.inr x, .int n t') :: vs, .cons ⟨rfl, t', rfl⟩ k1, fun e h => ?_, .cons (keyIs_str x t) rfl k3, by rw [List.map_cons, k4]; rfl⟩
    rcases List.mem_cons.mp h with rfl | h
    · exact ⟨.inr x, keyIs_str x t, rfl⟩
    · exact k2 e h
end
end LV
namespace LV
open PySem PySem.Spec L2
section
variable {X : Cx} {c : Ct} {W : WX} {o e f : Expr} {wo we wf : EW} {keys : List (Option Expr)} {values : List Expr} {kvs : List (Str × Int)} {pos apos : Pos}
def wGetD (wo we wf : EW) : EW := fun env Q E => wFz wo env (fun r e1 => (∃ ks ds, look e1 r = some (.dct ks ds) ∧ ∀ k ∈ ks, TKey k) ∧ wFz we e1 (fun r2 e2 => ∃ x, r2 = .fz (.str x) ∧ wFz wf e2 (fun r3 e3 => ∃ ks ds z, look e3 r = some (.dct ks ds) ∧ (∀ k ∈ ks, TKey k) ∧ r3 = .fz z ∧ Q (.fz ((valT x ks ds).getD z)) e3) E) E) E
theorem Mono.getD (mo : Mono wo) (me : Mono we) (mf : Mono wf) : Mono (wGetD wo we wf) := ⟨fun hQ hE h => mo.fz.mo (fun r e1 ⟨a, q⟩ => ⟨a, me.fz.mo (fun r2 e2 ⟨x, b, q⟩ => ⟨x, b, mf.fz.mo (fun r3 e3 ⟨ks, ds, z, l, k, y, q⟩ => ⟨ks, ds, z, l, k, y, hQ _ _ q⟩) hE q⟩) hE q⟩) hE h⟩
end
end LV
namespace LV
open PySem PySem.Spec L2
end LV
namespace LV
open PySem PySem.Spec L2
def iEnumA (K : PySem.W.Frag) (ta : TA) : TI := fun σ H R => ta σ H fun vs H1 => ∃ a xs, vs = [.ref a] ∧ ((SqT K H1 a xs ∧ R (IteT K a) H1) ∨ (SqL K H1 a xs ∧ R (Ite K a) H1))
theorem pi_enumA {X : Cx} {e : Expr} {ta : TA} {p pos tpos : Pos} {elts : List Expr} {kk : Nat} (hg : Gl X "enumerate") (hm : X.mg "enumerate" = none) (ha : PA X [e] ta) (hs : starEach [e] X.env = [(false, eval e X.env)] := by rfl) :
    PI X (.Tuple elts kk tpos) (.Call (.Name "enumerate" p) [e] [] pos) (iEnumA X.K ta) := by
  refine ⟨fun pins s σ H R I h => PyProof.Rows.Call_ (ld_blt I hg hm PyProof.Rows.boot_enumerate (PyProof.Rows.callWith_type1 (thn (ha.run pos pins s σ H _ I h) fun us s1 ⟨vs, H1, I1, r1, a, xs, ex, q⟩ => ?_) hs rfl))⟩
  subst ex
  obtain rfl := Vals.ref1 r1
  rcases q with ⟨hq, q⟩ | ⟨hq, q⟩
  · obtain ⟨its, rv, p', hz⟩ := I1.tuple hq
    refine call_enumT p' fun h' he hit hk => wpAny_pyIter_enum he ?_
    refine ⟨s1.heap.objs.size + 1, [s1.heap.objs.size + 1, s1.heap.objs.size], _, _, H1, rfl, I1.kept (t' := s1.toks) hk, turn_enumT a (s1.heap.objs.size + 1) s1.heap.objs.size, ⟨⟨.none, he⟩, hit, Nat.succ_ne_self _⟩, fun b hb => ?_, q⟩
    have hle : s1.heap.objs.size ≤ b := by
      rcases List.mem_cons.mp hb with z | z
      · rw [z]; exact Nat.le_add_right _ _
      · rw [List.mem_singleton.mp z]; exact Nat.le_refl _
    exact I1.fpOk hle (I1.hok.fresh hle)
  · obtain ⟨its, rv, p', hz⟩ := I1.list hq
    refine PySem.call_enumerate_list p'.isList fun h' he hit hsz hk => wpAny_pyIter_enum he ?_
    refine ⟨s1.heap.objs.size + 1, [s1.heap.objs.size + 1, s1.heap.objs.size], _, _, H1, rfl, I1.kept (t' := s1.toks) hk, turn_enum a (s1.heap.objs.size + 1) s1.heap.objs.size, ⟨⟨.none, he⟩, hit, Nat.succ_ne_self _⟩, fun b hb => ?_, q⟩
    have hle : s1.heap.objs.size ≤ b := by
      rcases List.mem_cons.mp hb with z | z
      · rw [z]; exact Nat.le_add_right _ _
      · rw [List.mem_singleton.mp z]; exact Nat.le_refl _
    exact I1.fpOk hle (I1.hok.fresh hle)
section
variable {X : Cx} {c : Ct} {W : WX} {a : Expr} {wl : AW} {p pos tpos : Pos} {elts : List Expr} {kk : Nat}
theorem Walks.enumL {M : Md} {F : Hp} {p : Addr} {xs : List V} {ds : List D} (h : F p = some (.lst xs)) (r : RepL M F xs ds) : Walks M c F (Ite M.K p) (enumD 0 ds) yesK := by
  refine ⟨fun F' H' σ' env' R s _ i hi => ⟨xs, .inl (.inl (R.sub _ _ (s _ _ h))), ?_⟩, fun F' H' σ' env' R s _ i d hd => ?_⟩
  · rw [enumD_len] at hi
    rw [r.length]; exact hi
  · obtain ⟨da, h1, rfl⟩ := enumD_get hd
    obtain ⟨x, hx, rx⟩ := r.get' h1
    have k1 : SqL M.K H' p xs := .inl (.inl (R.sub _ _ (s _ _ h)))
    refine ⟨⟨xs, x, k1, hx⟩, fun v H'' ⟨T, x', e1, hT, e2, f1⟩ => ?_⟩
    subst e1; subst e2
    have := f1 xs k1; rw [hx] at this; cases this
    rw [show (0 : Int) + (i : Int) = (i : Int) by omega]
    exact R.pair hT (.int _) (rx.same s)
def wEnumA (wl : AW) : IW := fun env Q E => wl env (fun rs e => ∃ ds e', (frzL e rs = some ([.tup ds], e') ∨ frzL e rs = some ([.lst ds], e')) ∧ Q (enumD 0 ds) yesK e') E
theorem si_enumA (hg : Gl X "enumerate") (hm : X.mg "enumerate" = none) (ha : SA X c W [a] wl) (hs : starEach [a] X.env = [(false, eval a X.env)] := by rfl) : SI X c W (.Tuple elts kk tpos) (.Call (.Name "enumerate" p) [a] [] pos) (wEnumA wl) := by
  refine ⟨PI.imp (pi_enumA hg hm ha.pa hs) fun σ H R' q => ?_, ⟨fun hQ hE h => ha.mo.mo (fun rs e ⟨ds, e', l, z⟩ => ⟨ds, e', l, hQ _ _ _ z⟩) hE h⟩⟩
  obtain ⟨F, env, R, q⟩ := q
  refine ⟨F, env, R, ha.mo.mo (fun rs e1 ⟨ds, e', l, z⟩ => ?_) (fun _ _ z => z) q⟩
  intro vs F1 H1 R1 ev1 ok
  rcases l with l | l
  · obtain ⟨F2, R2, ev2, rl⟩ := frzL_ok R1 ok l
    cases rl with
    | cons q1 rl =>
      cases rl
      cases q1 with
      | tup h1 r1 => exact ⟨_, _, rfl, .inl ⟨Same.sqT R2.sub h1, z F2 H1 _ R2 (ev1.trans ev2) (Walks.enumT h1 r1)⟩⟩
  · obtain ⟨F2, R2, ev2, rl⟩ := frzL_ok R1 ok l
    cases rl with
    | cons q1 rl =>
      cases rl
      cases q1 with
      | lst h1 r1 => exact ⟨_, _, rfl, .inr ⟨.inl (.inl (R2.sub _ _ h1)), z F2 H1 _ R2 (ev1.trans ev2) (Walks.enumL h1 r1)⟩⟩
end
end LV
set_option maxHeartbeats 2000000
namespace LV
open PySem PySem.Spec L2
def w_common_divisor : SW :=
  (wSeq (wWhile (wB (wOp2 gNe (wVar 1) (wC (.int 0))))
  (wPar 0 1 (wCons (wVar 1) (wCons (wOp2 gMod (wVar 0) (wVar 1)) wNil))))
  (wRet [] (wBlt gAbs (wCons (wVar 0) wNil))))
def w_lead_position : SW :=
  (wSeq (wFor (.t [1, 2]) (wEnumA (wCons (wVar 0) wNil))
  (wIf (wB (wOp2 gNe (wVar 2) (wC (.int 0))))
  (wRet [] (wVar 1))
  wSkip))
  (wRet [] (wBlt gLen (wCons (wVar 0) wNil))))
def w_index_with : SW :=
  (wSeq (wFor (.t [2, 3]) (wEnumA (wCons (wVar 0) wNil))
  (wIf (wB (wOp2 gNe (wOp2 gIx (wVar 3) (wVar 1)) (wC (.int 0))))
  (wRet [] (wVar 2))
  wSkip))
  (wRet [] (wC .non)))
def w__law_bag : SW :=
  (wSeq (wIf (wtNot (wTru (wVar 0)))
  (wRet [] (wLst (wCons (wC (.int 0)) (wCons (wNeg (wC (.int 1))) (wCons (wOp2 gMulT (wC (.int 100)) (wVar 1)) wNil)))))
  wSkip)
  (wSeq (wSet 2 (wOp2 gAdd (wOp2 gMulT (wOp2 gIx (wVar 0) (wC (.int 0))) (wC (.int 7919))) (wOp2 gMulT (wC (.int 104729)) (wVar 1))))
  (wSeq (wIf (wB (wOp2 gLt (wVar 1) (wBlt gLen (wCons (wVar 0) wNil))))
  (wSet 2 (wOp2 gIx (wVar 0) (wVar 1)))
  wSkip)
  (wSeq (wIf (wB (wOp2 gLt (wVar 2) (wC (.int 0))))
  (wSet 2 (wOp2 gSub (wC (.int 1)) (wVar 2)))
  wSkip)
  (wSeq (wSet 3 (wC (.int 0)))
  (wSeq (wIf (wB (wOp2 gGe (wVar 2) (wOp2 gPow (wC (.int 10)) (wC (.int 18)))))
  (wSet 3 (wVar 2))
  wSkip)
  (wRet [] (wLst (wCons (wVar 3) (wCons (wOp2 gMod (wBlt gInt1 (wCons (wVar 2) wNil)) (wC (.int 2147483629))) (wCons (wOp2 gMulT (wC (.int 100)) (wVar 1)) wNil)))))))))))
def w__law_take : SW :=
  (wSeq (wIf (wB (wOp2 gGt (wOp2 gIx (wVar 0) (wC (.int 0))) (wC (.int 0))))
  (wSeq (wSet 2 (wOp2 gMod (wBlt gInt1 (wCons (wOp2 gIx (wVar 0) (wC (.int 0))) wNil)) (wVar 1)))
  (wSeq (wSetIx 0 (wOp2 gDiv (wOp2 gIx (wVar 0) (wC (.int 0))) (wVar 1)) (wC (.int 0)))
  (wRet [0] (wVar 2))))
  wSkip)
  (wSeq (wSetIx 0 (wOp2 gAdd (wOp2 gIx (wVar 0) (wC (.int 2))) (wC (.int 1))) (wC (.int 2)))
  (wSeq (wIf (wB (wOp2 gLt (wOp2 gIx (wVar 0) (wC (.int 1))) (wC (.int 0))))
  (wRet [0] (wOp2 gMod (wBlt gInt1 (wCons (wOp2 gIx (wVar 0) (wC (.int 2))) wNil)) (wVar 1)))
  wSkip)
  (wSeq (wSet 3 (wOp2 gMod (wBlt gInt1 (wCons (wOp2 gAdd (wOp2 gAdd (wOp2 gMulT (wOp2 gIx (wVar 0) (wC (.int 1))) (wC (.int 48271))) (wOp2 gMulT (wOp2 gIx (wVar 0) (wC (.int 2))) (wC (.int 69621)))) (wC (.int 11))) wNil)) (wC (.int 2147483647))))
  (wSeq (wSet 4 (wOp2 gMod (wBlt gInt1 (wCons (wOp2 gAdd (wOp2 gMulT (wVar 3) (wOp2 gAdd (wOp2 gDiv (wVar 3) (wC (.int 46341))) (wC (.int 7)))) (wOp2 gMulT (wOp2 gIx (wVar 0) (wC (.int 2))) (wC (.int 40692)))) wNil)) (wC (.int 2147483399))))
  (wRet [0] (wOp2 gMod (wBlt gInt1 (wCons (wOp2 gDiv (wVar 4) (wC (.int 5))) wNil)) (wVar 1))))))))
def w__law_is_integer : SW :=
  (wRet [] (wAnd (wIsi .int (wVar 0)) (wNot (wIsi .bl (wVar 0)))))
def w__law_divisor : SW :=
  (wSeq (wSet 1 (wC (.int 0)))
  (wSeq (wFor (.n 2) (wIt [] (wVar 0))
  (wSeq (wSet 3 (wBlt gAbs (wCons (wVar 2) wNil)))
  (wWhile (wB (wOp2 gGt (wVar 3) (wC (.int 0))))
  (wSeq (wSet 4 (wOp2 gMod (wBlt gInt1 (wCons (wVar 1) wNil)) (wVar 3)))
  (wSeq (wSet 1 (wVar 3))
  (wSet 3 (wVar 4)))))))
  (wRet [] (wVar 1))))
def w__law_lead : SW :=
  (wSeq (wFor (.n 1) (wRng1 (wCons (wBlt gLen (wCons (wVar 0) wNil)) wNil))
  (wIf (wB (wOp2 gNe (wOp2 gIx (wVar 0) (wVar 1)) (wC (.int 0))))
  (wRet [] (wVar 1))
  wSkip))
  (wRet [] (wNeg (wC (.int 1)))))
def w__law_sum : SW :=
  (wRet [] (wBlt gTuple (wCons (wLc (.n 4) (wRng1 (wCons (wBlt gLen (wCons (wVar 0) wNil)) wNil)) uYes (wOp2 gAdd (wOp2 gMulT (wOp2 gIx (wVar 0) (wVar 4)) (wVar 1)) (wOp2 gMulT (wOp2 gIx (wVar 2) (wVar 4)) (wVar 3))) [4]) wNil)))
def w__law_product : SW :=
  (wRet [] (wBlt gSum (wCons (wLc (.n 2) (wRng1 (wCons (wBlt gLen (wCons (wVar 0) wNil)) wNil)) uYes (wOp2 gMulT (wOp2 gIx (wVar 0) (wVar 2)) (wOp2 gIx (wVar 1) (wVar 2))) [2]) wNil)))
def w_common_multiple (S_common_divisor : FSpec) : SW :=
  (wSeq (wSet 1 (wC (.int 1)))
  (wSeq (wFor (.n 2) (wIt [] (wVar 0))
  (wSet 1 (wOp2 gMulT (wVar 1) (wOp2 gDiv (wVar 2) (wCall S_common_divisor (wCons (wFrz (wVar 1)) (wCons (wFrz (wVar 2)) wNil)))))))
  (wRet [] (wVar 1))))
def w_simplified (S_common_divisor S_lead_position : FSpec) : SW :=
  (wSeq (wSet 1 (wC (.int 0)))
  (wSeq (wFor (.n 2) (wIt [] (wVar 0))
  (wSet 1 (wCall S_common_divisor (wCons (wFrz (wVar 1)) (wCons (wFrz (wVar 2)) wNil)))))
  (wSeq (wIf (wB (wOp2 gEq (wVar 1) (wC (.int 0))))
  (wRet [] (wBlt gTuple (wCons (wVar 0) wNil)))
  wSkip)
  (wSeq (wIf (wB (wOp2 gLt (wOp2 gIx (wVar 0) (wCall S_lead_position (wCons (wFrz (wVar 0)) wNil))) (wC (.int 0))))
  (wSet 1 (wNeg (wVar 1)))
  wSkip)
  (wRet [] (wBlt gTuple (wCons (wLc (.n 2) (wIt [] (wVar 0)) uYes (wOp2 gDiv (wVar 2) (wVar 1)) [2]) wNil)))))))
def w__law_primitive (S__law_divisor : FSpec) : SW :=
  (wSeq (wSet 1 (wCall S__law_divisor (wCons (wFrz (wVar 0)) wNil)))
  (wSeq (wIf (wB (wOp2 gLt (wVar 1) (wC (.int 2))))
  (wRet [] (wBlt gList (wCons (wVar 0) wNil)))
  wSkip)
  (wRet [] (wLc (.n 2) (wIt [] (wVar 0)) uYes (wOp2 gDiv (wVar 2) (wVar 1)) [2]))))
def w__law_is_row (S__law_is_integer : FSpec) : SW :=
  (wSeq (wIf (wtOr (wtNot (wTru (wIsi .tup (wVar 0)))) (wB (wOp2 gNe (wBlt gLen (wCons (wVar 0) wNil)) (wVar 1))))
  (wRet [] (wC (.bl false)))
  wSkip)
  (wRet [] (wBlt gAll (wCons (wLc (.n 2) (wIt [] (wVar 0)) uYes (wCall S__law_is_integer (wCons (wFrz (wVar 2)) wNil)) [2]) wNil))))
def w__law_row (S__law_take S__law_sum : FSpec) : SW :=
  (wSeq (wSet 3 (wCall S__law_take (wCons (wVar 0) (wCons (wC (.int 8)) wNil))))
  (wSeq (wIf (wtAnd (wB (wOp2 gEq (wVar 3) (wC (.int 7)))) (wTru (wVar 2)))
  (wSeq (wSet 4 (wOp2 gIx (wVar 2) (wCall S__law_take (wCons (wVar 0) (wCons (wFrz (wBlt gMin2 (wCons (wC (.int 4)) (wCons (wBlt gLen (wCons (wVar 2) wNil)) wNil)))) wNil)))))
  (wRet [0, 2] (wCall S__law_sum (wCons (wFrz (wVar 4)) (wCons (wFrz (wOp2 gSub (wCall S__law_take (wCons (wVar 0) (wCons (wC (.int 7)) wNil))) (wC (.int 3)))) (wCons (wFrz (wVar 4)) (wCons (wC (.int 0)) wNil)))))))
  wSkip)
  (wSeq (wIf (wtAnd (wB (wOp2 gEq (wVar 3) (wC (.int 6)))) (wTru (wVar 2)))
  (wSeq (wSet 4 (wOp2 gIx (wVar 2) (wCall S__law_take (wCons (wVar 0) (wCons (wFrz (wBlt gMin2 (wCons (wC (.int 4)) (wCons (wBlt gLen (wCons (wVar 2) wNil)) wNil)))) wNil)))))
  (wSeq (wSet 5 (wOp2 gSub (wCall S__law_take (wCons (wVar 0) (wCons (wC (.int 7)) wNil))) (wC (.int 3))))
  (wSeq (wSet 6 (wOp2 gIx (wVar 2) (wCall S__law_take (wCons (wVar 0) (wCons (wFrz (wBlt gMin2 (wCons (wC (.int 4)) (wCons (wBlt gLen (wCons (wVar 2) wNil)) wNil)))) wNil)))))
  (wRet [0, 2] (wCall S__law_sum (wCons (wFrz (wVar 4)) (wCons (wFrz (wVar 5)) (wCons (wFrz (wVar 6)) (wCons (wFrz (wOp2 gSub (wCall S__law_take (wCons (wVar 0) (wCons (wC (.int 7)) wNil))) (wC (.int 3)))) wNil)))))))))
  wSkip)
  (wSeq (wSet 7 (wC (.int 5)))
  (wSeq (wIf (wB (wOp2 gEq (wVar 3) (wC (.int 5))))
  (wSeq (wSet 7 (wC (.int 100)))
  (wIf (wB (wOp2 gLt (wVar 1) (wC (.int 7))))
  (wSet 7 (wOp2 gPow (wC (.int 10)) (wC (.int 12))))
  wSkip))
  wSkip)
  (wSeq (wSet 8 (wLst wNil))
  (wSeq (wFor (.n 9) (wRng1 (wCons (wVar 1) wNil))
  (wSeq (wSet 10 (wC (.int 0)))
  (wSeq (wIf (wB (wOp2 gGt (wCall S__law_take (wCons (wVar 0) (wCons (wC (.int 3)) wNil))) (wC (.int 0))))
  (wSet 10 (wOp2 gSub (wCall S__law_take (wCons (wVar 0) (wCons (wFrz (wOp2 gAdd (wOp2 gMulT (wC (.int 2)) (wVar 7)) (wC (.int 1)))) wNil))) (wVar 7)))
  wSkip)
  (wApp 8 (wVar 10)))))
  (wRet [0, 2] (wBlt gTuple (wCons (wVar 8) wNil))))))))))
def w__law_width (S__law_take : FSpec) : SW :=
  (wSeq (wSet 1 (wOp2 gIx (wLst (wCons (wC (.int 2)) (wCons (wC (.int 3)) (wCons (wC (.int 4)) (wCons (wC (.int 3)) (wCons (wC (.int 5)) (wCons (wC (.int 6)) (wCons (wC (.int 1)) (wCons (wC (.int 17)) wNil))))))))) (wCall S__law_take (wCons (wVar 0) (wCons (wC (.int 8)) wNil)))))
  (wSeq (wIf (wB (wOp2 gEq (wVar 1) (wC (.int 17))))
  (wSet 1 (wOp2 gSub (wC (.int 17)) (wCall S__law_take (wCons (wVar 0) (wCons (wC (.int 11)) wNil)))))
  wSkip)
  (wRet [0] (wVar 1))))
def w_cleared (S_simplified : FSpec) : SW :=
  (wSeq (wIf (wB (wOp2 gEq (wOp2 gIx (wVar 0) (wVar 2)) (wC (.int 0))))
  (wRet [] (wVar 0))
  wSkip)
  (wSeq (wSet 3 (wOp2 gIx (wVar 1) (wVar 2)))
  (wSeq (wSet 4 (wOp2 gIx (wVar 0) (wVar 2)))
  (wRet [] (wCall S_simplified (wCons (wFrz (wLc (.t [5, 6]) (wZip (wCons (wVar 0) (wCons (wVar 1) wNil))) uYes (wOp2 gSub (wOp2 gMulT (wVar 3) (wVar 5)) (wOp2 gMulT (wVar 4) (wVar 6))) [5, 6])) wNil))))))
def w__law_cleared (S__law_primitive : FSpec) : SW :=
  (wSeq (wIf (wB (wOp2 gEq (wOp2 gIx (wVar 0) (wVar 1)) (wC (.int 0))))
  (wRet [] (wBlt gList (wCons (wVar 0) wNil)))
  wSkip)
  (wSeq (wSet 3 (wOp2 gIx (wVar 0) (wVar 1)))
  (wSeq (wSet 4 (wOp2 gIx (wVar 2) (wVar 1)))
  (wRet [] (wCall S__law_primitive (wCons (wFrz (wLc (.n 5) (wRng1 (wCons (wBlt gLen (wCons (wVar 0) wNil)) wNil)) uYes (wOp2 gSub (wOp2 gMulT (wOp2 gIx (wVar 0) (wVar 5)) (wVar 4)) (wOp2 gMulT (wOp2 gIx (wVar 2) (wVar 5)) (wVar 3))) [5])) wNil))))))
def w__law_is_form (S__law_is_row S__law_lead S__law_divisor : FSpec) : SW :=
  (wSeq (wIf (wtNot (wTru (wIsi .lst (wVar 0))))
  (wRet [0] (wC (.bl false)))
  wSkip)
  (wSeq (wIf (wtNot (wTru (wBlt gAll (wCons (wLc (.n 2) (wIt [0] (wVar 0)) uYes (wCall S__law_is_row (wCons (wFrz (wVar 2)) (wCons (wFrz (wVar 1)) wNil))) [2]) wNil))))
  (wRet [0] (wC (.bl false)))
  wSkip)
  (wSeq (wSet 3 (wNeg (wC (.int 1))))
  (wSeq (wFor (.n 2) (wIt [0] (wVar 0))
  (wSeq (wSet 4 (wCall S__law_lead (wCons (wFrz (wVar 2)) wNil)))
  (wSeq (wIf (wtOr (wB (wOp2 gLe (wVar 4) (wVar 3))) (wtOr (wB (wOp2 gLt (wOp2 gIx (wVar 2) (wVar 4)) (wC (.int 0)))) (wB (wOp2 gNe (wCall S__law_divisor (wCons (wFrz (wVar 2)) wNil)) (wC (.int 1))))))
  (wRet [0] (wC (.bl false)))
  wSkip)
  (wSeq (wIf (wB (wOp2 gNe (wBlt gLen (wCons (wLc (.n 5) (wIt [0] (wVar 0)) (wB (wOp2 gNe (wOp2 gIx (wVar 5) (wVar 4)) (wC (.int 0)))) (wVar 5) [5]) wNil)) (wC (.int 1))))
  (wRet [0] (wC (.bl false)))
  wSkip)
  (wSet 3 (wVar 4))))))
  (wRet [0] (wC (.bl true)))))))
def w__law_rows (S__law_take S__law_row S__law_bag : FSpec) : SW :=
  (wSeq (wSet 3 (wLst wNil))
  (wSeq (wFor (.n 4) (wRng1 (wCons (wCall S__law_take (wCons (wVar 1) (wCons (wC (.int 7)) wNil))) wNil))
  (wApp 3 (wCall S__law_row (wCons (wVar 1) (wCons (wFrz (wVar 2)) (wCons (wVar 3) wNil))))))
  (wSeq (wFor (.n 4) (wRng2 (wCons (wC (.int 2)) (wCons (wBlt gMin2 (wCons (wC (.int 14)) (wCons (wBlt gLen (wCons (wVar 0) wNil)) wNil))) wNil)))
  (wApp 3 (wCallT S__law_row (wCall S__law_bag (wCons (wFrz (wVar 0)) (wCons (wFrz (wVar 4)) wNil))) (wCons (wFrz (wVar 2)) (wCons (wVar 3) wNil)))))
  (wRet [1] (wVar 3)))))
def w__law_tried (S__law_take S__law_sum S__law_primitive : FSpec) : SW :=
  (wSeq (wSet 3 (wBlt gTuple (wCons (wOp2 gMulT (wLst (wCons (wC (.int 0)) wNil)) (wVar 2)) wNil)))
  (wSeq (wIf (wTru (wVar 1))
  (wFor (.n 4) (wRng1 (wCons (wCall S__law_take (wCons (wVar 0) (wCons (wC (.int 4)) wNil))) wNil))
  (wSeq (wSet 5 (wOp2 gIx (wVar 1) (wCall S__law_take (wCons (wVar 0) (wCons (wFrz (wBlt gLen (wCons (wVar 1) wNil))) wNil)))))
  (wSet 3 (wCall S__law_sum (wCons (wFrz (wVar 3)) (wCons (wC (.int 1)) (wCons (wFrz (wVar 5)) (wCons (wFrz (wOp2 gSub (wCall S__law_take (wCons (wVar 0) (wCons (wC (.int 7)) wNil))) (wC (.int 3)))) wNil))))))))
  wSkip)
  (wSeq (wSet 6 (wCall S__law_take (wCons (wVar 0) (wCons (wFrz (wVar 2)) wNil))))
  (wSeq (wSet 7 (wOp2 gAdd (wOp2 gAdd (wSl (wVar 3) wNoP (wPt (wVar 6))) (wTup (wCons (wOp2 gAdd (wOp2 gAdd (wOp2 gIx (wVar 3) (wVar 6)) (wC (.int 1))) (wCall S__law_take (wCons (wVar 0) (wCons (wC (.int 9)) wNil)))) wNil))) (wSl (wVar 3) (wPt (wOp2 gAdd (wVar 6) (wC (.int 1)))) wNoP)))
  (wSeq (wSet 8 (wBlt gTuple (wCons (wLc (.n 4) (wRng1 (wCons (wVar 2) wNil)) uYes (wOp2 gSub (wCall S__law_take (wCons (wVar 0) (wCons (wC (.int 11)) wNil))) (wC (.int 5))) [4]) wNil)))
  (wRet [0] (wLst (wCons (wVar 3) (wCons (wBlt gTuple (wCons (wCall S__law_primitive (wCons (wFrz (wVar 3)) wNil)) wNil)) (wCons (wVar 7) (wCons (wVar 8) (wCons (wBlt gTuple (wCons (wOp2 gMulT (wLst (wCons (wC (.int 0)) wNil)) (wVar 2)) wNil)) wNil))))))))))))
def w_reduced (S_simplified S_index_with S_cleared : FSpec) : SW :=
  (wSeq (wSet 2 (wLc (.n 3) (wIt [] (wVar 0)) uYes (wCall S_simplified (wCons (wFrz (wVar 3)) wNil)) [3]))
  (wSeq (wSet 4 (wLst wNil))
  (wSeq (wFor (.n 5) (wRng1 (wCons (wVar 1) wNil))
  (wSeq (wSet 6 (wCall S_index_with (wCons (wFrz (wVar 2)) (wCons (wFrz (wVar 5)) wNil))))
  (wIf (wB (wOp2 gIsNotN (wVar 6) (wC .non)))
  (wSeq (wSet 7 (wOp2 gIx (wVar 2) (wVar 6)))
  (wSeq (wSet 8 (wOp2 gAdd (wSl (wVar 2) wNoP (wPt (wVar 6))) (wSl (wVar 2) (wPt (wOp2 gAdd (wVar 6) (wC (.int 1)))) wNoP)))
  (wSeq (wSet 2 (wLc (.n 3) (wIt [] (wVar 8)) uYes (wCall S_cleared (wCons (wFrz (wVar 3)) (wCons (wFrz (wVar 7)) (wCons (wFrz (wVar 5)) wNil)))) [3]))
  (wSet 4 (wOp2 gAdd (wLc (.n 3) (wIt [] (wVar 4)) uYes (wCall S_cleared (wCons (wFrz (wVar 3)) (wCons (wFrz (wVar 7)) (wCons (wFrz (wVar 5)) wNil)))) [3]) (wLst (wCons (wVar 7) wNil)))))))
  wSkip)))
  (wRet [] (wVar 4)))))
def w__law_echelon (S__law_cleared S__law_lead S__law_primitive : FSpec) : SW :=
  (wSeq (wSet 1 (wLst wNil))
  (wSeq (wFor (.n 2) (wIt [] (wVar 0))
  (wSeq (wSet 3 (wBlt gList (wCons (wVar 2) wNil)))
  (wSeq (wPinS 1 (wFor (.n 4) (wIt [1] (wVar 1))
  (wSet 3 (wCall S__law_cleared (wCons (wFrz (wVar 3)) (wCons (wFrz (wOp2 gIx (wVar 4) (wC (.int 0)))) (wCons (wFrz (wOp2 gIx (wVar 4) (wC (.int 1)))) wNil)))))))
  (wIf (wB (wOp2 gGe (wCall S__law_lead (wCons (wFrz (wVar 3)) wNil)) (wC (.int 0))))
  (wApp 1 (wTup (wCons (wCall S__law_lead (wCons (wFrz (wVar 3)) wNil)) (wCons (wCall S__law_primitive (wCons (wFrz (wVar 3)) wNil)) wNil))))
  wSkip))))
  (wRet [] (wVar 1))))
def w__law_spans (S__law_cleared S__law_lead : FSpec) : SW :=
  (wSeq (wSet 2 (wBlt gList (wCons (wVar 1) wNil)))
  (wSeq (wFor (.n 3) (wIt [] (wVar 0))
  (wSet 2 (wCall S__law_cleared (wCons (wFrz (wVar 2)) (wCons (wFrz (wOp2 gIx (wVar 3) (wC (.int 0)))) (wCons (wFrz (wOp2 gIx (wVar 3) (wC (.int 1)))) wNil))))))
  (wRet [] (wOp2 gLt (wCall S__law_lead (wCons (wFrz (wVar 2)) wNil)) (wC (.int 0))))))
def w_null_space (S_reduced S_lead_position S_common_multiple : FSpec) : SW :=
  (wSeq (wSet 2 (wCall S_reduced (wCons (wFrz (wVar 0)) (wCons (wFrz (wVar 1)) wNil))))
  (wSeq (wSet 3 (wLc (.n 4) (wIt [] (wVar 2)) uYes (wCall S_lead_position (wCons (wFrz (wVar 4)) wNil)) [4]))
  (wSeq (wSet 5 (wCall S_common_multiple (wCons (wFrz (wLc (.t [4, 6]) (wZip (wCons (wVar 2) (wCons (wVar 3) wNil))) uYes (wOp2 gIx (wVar 4) (wVar 6)) [4, 6])) wNil)))
  (wSeq (wSet 7 (wLst wNil))
  (wSeq (wFor (.n 8) (wRng1 (wCons (wVar 1) wNil))
  (wIf (wB (wOp2 gNotIn (wVar 8) (wVar 3)))
  (wSeq (wSet 9 (wOp2 gMulT (wLst (wCons (wC (.int 0)) wNil)) (wVar 1)))
  (wSeq (wSetIx 9 (wVar 5) (wVar 8))
  (wSeq (wFor (.t [4, 6]) (wZip (wCons (wVar 2) (wCons (wVar 3) wNil)))
  (wSetIx 9 (wOp2 gMulT (wNeg (wOp2 gIx (wVar 4) (wVar 8))) (wOp2 gDiv (wVar 5) (wOp2 gIx (wVar 4) (wVar 6)))) (wVar 6)))
  (wApp 7 (wBlt gTuple (wCons (wVar 9) wNil))))))
  wSkip))
  (wRet [] (wCall S_reduced (wCons (wFrz (wVar 7)) (wCons (wFrz (wVar 1)) wNil)))))))))
def w_in_span (S_reduced : FSpec) : SW :=
  (wSeq (wSet 2 (wBlt gLen (wCons (wVar 1) wNil)))
  (wRet [] (wOp2 gEq (wBlt gLen (wCons (wCall S_reduced (wCons (wFrz (wOp2 gAdd (wVar 0) (wLst (wCons (wVar 1) wNil)))) (wCons (wFrz (wVar 2)) wNil))) wNil)) (wBlt gLen (wCons (wCall S_reduced (wCons (wFrz (wVar 0)) (wCons (wFrz (wVar 2)) wNil))) wNil)))))
def w__law_judged (S_in_span S__law_spans : FSpec) : SW :=
  (wSeq (wFor (.n 3) (wIt [] (wVar 2))
  (wSeq (wSet 4 (wBlt gList (wCons (wVar 0) wNil)))
  (wSeq (wSet 5 (wCall S_in_span (wCons (wFrz (wVar 4)) (wCons (wFrz (wVar 3)) wNil))))
  (wSeq (wIf (wB (wOp2 gNe (wVar 4) (wVar 0)))
  (wRet [] (wC (.bl false)))
  wSkip)
  (wSeq (wIf (wtAnd (wTru (wCall S__law_spans (wCons (wFrz (wVar 1)) (wCons (wFrz (wVar 3)) wNil)))) (wB (wOp2 gIsNotB (wVar 5) (wC (.bl true)))))
  (wRet [] (wC (.bl false)))
  wSkip)
  (wIf (wtAnd (wtNot (wTru (wCall S__law_spans (wCons (wFrz (wVar 1)) (wCons (wFrz (wVar 3)) wNil))))) (wB (wOp2 gIsNotB (wVar 5) (wC (.bl false)))))
  (wRet [] (wC (.bl false)))
  wSkip))))))
  (wRet [] (wC (.bl true))))
def w__law_back (S_null_space S__law_is_form S__law_lead S__law_spans S_in_span : FSpec) : SW :=
  (wSeq (wIf (wB (wOp2 gGe (wBlt gMaxL (wCons (wOp2 gAdd (wLst (wCons (wC (.int 0)) wNil)) (wLc (.n 4) (wIt [] (wVar 2)) uYes (wBlt gMaxL (wCons (wLc (.n 5) (wIt [] (wVar 4)) uYes (wBlt gAbs (wCons (wVar 5) wNil)) [5]) wNil)) [4])) wNil)) (wOp2 gPow (wC (.int 10)) (wC (.int 30)))))
  (wRet [] (wC (.bl true)))
  wSkip)
  (wSeq (wSet 6 (wBlt gList (wCons (wVar 2) wNil)))
  (wSeq (wSet 7 (wCall S_null_space (wCons (wFrz (wVar 6)) (wCons (wFrz (wVar 3)) wNil))))
  (wSeq (wIf (wtOr (wtNot (wTru (wCall S__law_is_form (wCons (wVar 7) (wCons (wFrz (wVar 3)) wNil))))) (wtOr (wB (wOp2 gNe (wBlt gLen (wCons (wVar 7) wNil)) (wBlt gLen (wCons (wVar 1) wNil)))) (wB (wOp2 gNe (wVar 6) (wVar 2)))))
  (wRet [] (wC (.bl false)))
  wSkip)
  (wSeq (wSet 8 (wLc (.n 9) (wIt [] (wVar 7)) uYes (wTup (wCons (wCall S__law_lead (wCons (wFrz (wVar 9)) wNil)) (wCons (wVar 9) wNil))) [9]))
  (wSeq (wIf (wtNot (wTru (wBlt gAll (wCons (wLc (.n 4) (wIt [] (wVar 0)) uYes (wCall S__law_spans (wCons (wFrz (wVar 8)) (wCons (wFrz (wVar 4)) wNil))) [4]) wNil))))
  (wRet [] (wC (.bl false)))
  wSkip)
  (wSeq (wFor (.n 4) (wIt [] (wSl (wVar 2) wNoP (wPt (wC (.int 4)))))
  (wIf (wB (wOp2 gIsNotB (wCall S_in_span (wCons (wFrz (wBlt gList (wCons (wVar 0) wNil))) (wCons (wFrz (wVar 4)) wNil))) (wC (.bl false))))
  (wRet [] (wC (.bl false)))
  wSkip))
  (wRet [] (wC (.bl true))))))))))
def w_law (S__law_bag S__law_width S__law_rows S_null_space S__law_is_form S__law_echelon S__law_product S__law_tried S__law_judged S__law_back : FSpec) : SW :=
  (wSeq (wSet 1 (wCall S__law_bag (wCons (wFrz (wVar 0)) (wCons (wC (.int 0)) wNil))))
  (wSeq (wSet 2 (wCall S__law_width (wCons (wVar 1) wNil)))
  (wSeq (wSet 3 (wCall S__law_rows (wCons (wFrz (wVar 0)) (wCons (wVar 1) (wCons (wFrz (wVar 2)) wNil)))))
  (wSeq (wSet 4 (wBlt gList (wCons (wVar 3) wNil)))
  (wSeq (wSet 5 (wCall S_null_space (wCons (wFrz (wVar 4)) (wCons (wFrz (wVar 2)) wNil))))
  (wSeq (wIf (wtNot (wTru (wCall S__law_is_form (wCons (wVar 5) (wCons (wFrz (wVar 2)) wNil)))))
  (wRet [] (wC (.bl false)))
  wSkip)
  (wSeq (wSet 6 (wBlt gList (wCons (wVar 5) wNil)))
  (wSeq (wApp 5 (wBlt gTuple (wCons (wOp2 gMulT (wLst (wCons (wC (.int 1)) wNil)) (wVar 2)) wNil)))
  (wSeq (wIf (wB (wOp2 gNe (wVar 4) (wVar 3)))
  (wRet [] (wC (.bl false)))
  wSkip)
  (wSeq (wSet 7 (wCall S__law_echelon (wCons (wFrz (wVar 3)) wNil)))
  (wSeq (wIf (wB (wOp2 gNe (wOp2 gAdd (wBlt gLen (wCons (wVar 6) wNil)) (wBlt gLen (wCons (wVar 7) wNil))) (wVar 2)))
  (wRet [] (wC (.bl false)))
  wSkip)
  (wSeq (wFor (.n 8) (wIt [] (wVar 3))
  (wIf (wtNot (wTru (wBlt gAll (wCons (wLc (.n 9) (wIt [] (wVar 6)) uYes (wOp2 gEq (wCall S__law_product (wCons (wFrz (wVar 9)) (wCons (wFrz (wVar 8)) wNil))) (wC (.int 0))) [9]) wNil))))
  (wRet [] (wC (.bl false)))
  wSkip))
  (wSeq (wIf (wtNot (wTru (wCall S__law_judged (wCons (wFrz (wVar 3)) (wCons (wFrz (wVar 7)) (wCons (wFrz (wCallT S__law_tried (wCall S__law_bag (wCons (wFrz (wVar 0)) (wCons (wC (.int 1)) wNil))) (wCons (wFrz (wVar 3)) (wCons (wFrz (wVar 2)) wNil)))) wNil))))))
  (wRet [] (wC (.bl false)))
  wSkip)
  (wRet [] (wCall S__law_back (wCons (wFrz (wVar 3)) (wCons (wFrz (wVar 7)) (wCons (wFrz (wVar 6)) (wCons (wFrz (wVar 2)) wNil)))))))))))))))))))
end LV
set_option maxHeartbeats 1000000
namespace LV
open PySem PySem.Spec L2
end LV
namespace LV
open PySem PySem.Spec L2
theorem uYes_i' {env : En} {Q : Bool → En → Prop} {E : XW} (h : Q true env) : uYes env Q E := h
section
variable {env e1 e2 : En} {wa wb w wc : EW} {a b c : Str} {i j m : Nat} {k : Bool} {ds es : List D} {d : D}
theorem ix_tup {j : Nat} {Q : Rv → Prop} (h : ds[j]? = some d) (q : Q (.fz d)) : gIx (.tup ds) (.int (j : Int)) Q := ⟨d, at_nat h, q⟩
theorem ix_l {j : Nat} {Q : Rv → Prop} (h : ds[j]? = some d) (q : Q (.fz d)) : gIx (.lst ds) (.int (j : Int)) Q := ⟨d, at_nat h, q⟩
theorem ev_ixt (j : Nat) (ha : Ev env wa (.tup ds) e1) (h : ds[j]? = some d) : EvR env (wOp2 gIx wa (wC (.int (j : Int)))) (.fz d) e1 := ev_op ha cx fun Q' q => ix_tup h q
theorem ev_int1 {x : Int} (h : Ev env w (.int x) e1) : EvR env (wBlt gInt1 (wCons w wNil)) (.fz (.int x)) e1 := ev_blt (evl_cons h evl_nil) fun Q' q => by rw [gInt1_i]; exact q
theorem ev_neg {x : Int} : EvR env (wNeg (wC (.int x))) (.fz (.int (-x))) env := ⟨fun {Q E} q => by
  unfold wNeg
  exact ⟨x, rfl, q⟩⟩
theorem ev_nei {env e1 e2 : En} {wa wb : EW} {a : Int} (ha : Ev env wa (.int a) e1) (hb : Ev e1 wb (.int a) e2) : EvR env (wOp2 gNe wa wb) (.fz (.bl false)) e2 := ev_op ha hb fun Q' q => ⟨rfl, rfl, by
  rw [eqv_ii, beq_self_eq_true]; exact q⟩
theorem cut_take {ds : List D} {k : Nat} : cutD ds none (some (k : Int)) = ds.take k := by
  unfold cutD
  rw [HT.sIx_none, HT.sIx_nat]
  simp
theorem cut_drop {ds : List D} {k : Nat} : cutD ds (some (k : Int)) none = ds.drop k := by
  unfold cutD
  rw [HT.sIx_none, HT.sIx_nat]
  by_cases h : k ≤ ds.length
  · rw [Nat.min_eq_left h, List.take_of_length_le (by rw [List.length_drop]; omega)]
  · rw [List.drop_eq_nil_of_le (by omega : ds.length ≤ k), List.drop_eq_nil_of_le (by omega)]; simp
end
section
variable {env e1 e2 : En} {wa wb wc : EW} {a b c : Int} {k : Bool}
theorem ev_gei {wa wb : EW} (ha : Ev env wa (.int a) e1) (hb : Ev e1 wb (.int b) e2) (h : decide (b ≤ a) = k) : EvR env (wOp2 gGe wa wb) (.fz (.bl k)) e2 := ev_op ha hb fun Q' q => by rw [gGe_ii, h]; exact q
theorem ev_gti {wa wb : EW} (ha : Ev env wa (.int a) e1) (hb : Ev e1 wb (.int b) e2) (h : decide (b < a) = k) : EvR env (wOp2 gGt wa wb) (.fz (.bl k)) e2 := ev_op ha hb fun Q' q => by rw [gGt_ii, h]; exact q
theorem ev_lti {wa wb : EW} (ha : Ev env wa (.int a) e1) (hb : Ev e1 wb (.int b) e2) (h : decide (a < b) = k) : EvR env (wOp2 gLt wa wb) (.fz (.bl k)) e2 := ev_op ha hb fun Q' q => by rw [gLt_ii, h]; exact q
theorem ev_addi {wa wb : EW} (ha : Ev env wa (.int a) e1) (hb : Ev e1 wb (.int b) e2) : EvR env (wOp2 gAdd wa wb) (.fz (.int (a + b))) e2 := ev_op ha hb fun Q' q => by rw [gAdd_ii]; exact q
theorem ev_subi {wa wb : EW} (ha : Ev env wa (.int a) e1) (hb : Ev e1 wb (.int b) e2) : EvR env (wOp2 gSub wa wb) (.fz (.int (a - b))) e2 := ev_op ha hb fun Q' q => by rw [gSub_ii]; exact q
theorem ev_eqi' {wa wb : EW} (ha : Ev env wa (.int a) e1) (hb : Ev e1 wb (.int b) e2) (h : decide (a = b) = k) : EvR env (wOp2 gEq wa wb) (.fz (.bl k)) e2 := ev_op ha hb fun Q' q => ⟨rfl, rfl, by
  rw [eqv_ii, show (a == b) = decide (a = b) by rw [Bool.eq_iff_iff, beq_iff_eq, decide_eq_true_eq], h]; exact q⟩
theorem ev_lent {w : EW} {ds : List D} (h : Ev env w (.tup ds) e1) : EvR env (wBlt gLen (wCons w wNil)) (.fz (.int (ds.length : Int))) e1 := ev_blt (evl_cons h evl_nil) fun Q' q => q
theorem ev_lenl {w : EW} {ds : List D} (h : Ev env w (.lst ds) e1) : EvR env (wBlt gLen (wCons w wNil)) (.fz (.int (ds.length : Int))) e1 := ev_blt (evl_cons h evl_nil) fun Q' q => q
end
section
variable {env e1 e2 : En} {w wa wb : EW} {ds es : List D} {i j : Int} {K : Ks} {tg : Tg} {body : SW} {pn : List Nat}
theorem ev_slLR (h : Ev env w (.lst ds) env) (hw : EvR env wa (.fz (.int i)) env) : EvR env (wSl w wNoP (wPt wa)) (.ow (.lst (cutD ds none (some i)))) env := ⟨fun {Q E} q => by
  unfold wSl wNoP wPt
  exact h.go (hw.go ⟨i, rfl, .lst ds, rfl, q⟩)⟩
theorem ev_slLL (h : Ev env w (.lst ds) env) (hw : EvR env wa (.fz (.int i)) env) : EvR env (wSl w (wPt wa) wNoP) (.ow (.lst (cutD ds (some i) none))) env := ⟨fun {Q E} q => by
  unfold wSl wNoP wPt
  exact h.go (hw.go ⟨i, rfl, .lst ds, rfl, q⟩)⟩
theorem ev_slTR (h : Ev env w (.tup ds) env) (hw : EvR env wa (.fz (.int i)) env) : EvR env (wSl w wNoP (wPt wa)) (.fz (.tup (cutD ds none (some i)))) env := ⟨fun {Q E} q => by
  unfold wSl wNoP wPt
  exact h.go (hw.go ⟨i, rfl, .tup ds, rfl, q⟩)⟩
theorem ev_slTL (h : Ev env w (.tup ds) env) (hw : EvR env wa (.fz (.int i)) env) : EvR env (wSl w (wPt wa) wNoP) (.fz (.tup (cutD ds (some i) none))) env := ⟨fun {Q E} q => by
  unfold wSl wNoP wPt
  exact h.go (hw.go ⟨i, rfl, .tup ds, rfl, q⟩)⟩
theorem run_for (h : Ev env w (.lst ds) e1) (hs : ∀ Q E, w env Q E → True) (q : loopW tg body yesK K ds e1) (hr : ∃ r, EvR env w r e1 ∧ r.frz = .fz (.lst ds) ∧ ∀ i, r ≠ .sl i) : wFor tg (wIt pn w) body K env := by
  obtain ⟨r, e, z, n⟩ := hr
  unfold wFor wIt
  refine e.go ?_
  cases r with
  | fz d => cases z; exact ⟨ds, rfl, q⟩
  | ow o =>
    have : o.d = .lst ds := by injection z
    exact ⟨ds, by rw [this]; rfl, q⟩
  | sl i => exact absurd rfl (n i)
theorem run_forO (h : EvR env w (.ow (.lst ds)) e1) (q : loopW tg body yesK K ds e1) : wFor tg (wIt pn w) body K env := run_for h.ow (fun _ _ _ => trivial) q ⟨_, h, rfl, fun _ z => nomatch z⟩
end
section
variable {env e1 : En} {wl : AW} {ds : List D} {S : FSpec} {C : Str} {Q : Rv → En → Prop} {E : XW} {u : TW} {s1 s2 : SW} {K : Ks} {pn : List Nat}
theorem call_both (mS : MonoF S) (hl : EvL env wl ds e1) (q : S (ds.map .fz) (fun r as => as = ds.map .fz ∧ (∀ i, r ≠ .sl i) ∧ Q r e1) (fun x as => as = ds.map .fz ∧ E x e1)) : wCall S wl env Q E := by
  unfold wCall
  refine hl.go ⟨_, valL_fz ds, by rw [slots_fz]; exact List.nodup_nil, mS.mo (fun r as ⟨e, n, z⟩ => ?_) (fun x as ⟨e, z⟩ => ?_) q⟩
  · subst e; exact ⟨backOk_fz ds, n, by rw [putL_fz]; exact z⟩
  · subst e; exact ⟨backOk_fz ds, by rw [putL_fz]; exact z⟩
theorem sk_f (h : EvT env u false e1) (q : s2 K e1) : wSeq (wIf u s1 wSkip) s2 K env := run_if_f (K := { K with nx := fun e => s2 K e }) h q
theorem sk_t (h : EvT env u true e1) (q : ∀ K' : Ks, K'.rt = K.rt → K'.ex = K.ex → s1 K' e1) : wSeq (wIf u s1 wSkip) s2 K env := run_if_t (K := { K with nx := fun e => s2 K e }) h (q _ rfl rfl)
end
section
variable {α : Type} {g f : α → D} {w : EW}
theorem cw_mapL {tg : Tg} {vs : List Nat} {keep : KeepE} {Q : List D → En → Prop} {env : En} (hk : keep env) : ∀ (xs : List α) (acc : List D), (∀ x ∈ xs, ∃ e1, bindT tg (g x) env = some e1 ∧ wipeE e1 vs = env ∧ Ev e1 w (f x) e1) → acc.length + xs.length < sizeLine → Q (acc ++ xs.map f) env → compW tg uYes w vs keep Q (xs.map g) acc env
  | [], acc, _, _, q => ⟨hk, by rw [List.map_nil, List.append_nil] at q; exact q⟩
  | x :: xs, acc, h, hl, q => by
    rw [List.length_cons] at hl
    obtain ⟨e1, h1, h2, h3⟩ := h x List.mem_cons_self
    refine ⟨hk, e1, h1, ?_⟩
    refine uYes_i' ?_
    rw [if_pos rfl]
    refine h3.go ⟨f x, e1, rfl, by omega, ?_⟩
    rw [h2]
    refine cw_mapL hk xs (acc ++ [f x]) (fun y hy => h y (List.mem_cons_of_mem _ hy)) (by rw [List.length_append, List.length_singleton]; omega) ?_
    rw [List.append_assoc]
    exact q
theorem lc_mapL {i : Nat} {pn : List Nat} {wa : EW} {env e1 : En} {d : D} {xs : List α} (hi : EvR env wa (.fz d) e1) (hx : itemsD d = some (xs.map g))
    (he : ∀ x ∈ xs, Ev ((e1.set i none).set i (some (.fz (g x)))) w (f x) ((e1.set i none).set i (some (.fz (g x))))) (hl : xs.length < 1000) : EvR env (wLc (.n i) (wIt pn wa) uYes w [i]) (.ow (.lst (xs.map f))) (e1.set i none) :=
  ev_lc hi hx fun Q q => by
    have sz := sizeLine_eq
    refine cw_mapL True.intro xs [] (fun x hx => ⟨_, rfl, ?_, he x hx⟩) (by rw [List.length_nil]; omega) q
    simp only [wipeE, List.set_set]
end
section
variable {env e1 : En} {w wa wb : EW} {i : Nat} {ds : List D} {d : D} {j k : Nat} {pn : List Nat}
theorem ev_lenW (h : env[i]? = some (some (.ow (.lst ds)))) : EvR env (wBlt gLen (wCons (wVar i) wNil)) (.fz (.int (ds.length : Int))) env := ev_bltS h fun Q' q => q
end
section
variable {env e1 e2 : En} {w : EW} {wl : AW} {K : Ks} {ds : List D} {d : D} {i : Nat} {S : FSpec} {x : Xn}
theorem app_d {ds : List D} (h : Ev env w d env) (hi : env[i]? = some (some (.ow (.lst ds)))) (hl : ds.length < 1000) (q : K.nx (env.set i (some (.ow (.lst (ds ++ [d])))))) : wApp i w K env := by
  have sz := sizeLine_eq
  unfold wApp
  exact ⟨⟨_, hi⟩, h.go ⟨ds, d, env, (fun z => nomatch z), rfl, hi, by omega, q⟩⟩
end
theorem run_forD {K : Ks} {env e1 : En} {tg : Tg} {w : EW} {pn : List Nat} {body : SW} {d : D} {xs : List D} (h : EvR env w (.fz d) e1) (hx : itemsD d = some xs) (q : loopW tg body yesK K xs e1) : wFor tg (wIt pn w) body K env := by
  unfold wFor wIt
  exact h.go ⟨xs, hx, q⟩
theorem run_forR {tg : Tg} {body : SW} {K : Ks} {env e1 : En} {wl : AW} {n : Nat} (el : EvL env wl [.int (n : Int)] e1) (hn : n ≤ 1000) (q : loopW tg body yesK K (rngD 0 n) e1) : wFor tg (wRng1 wl) body K env := by
  change wl env (fun rs e => ∃ j, lookL e rs = some [.int j] ∧ okR j ∧ loopW tg body yesK K (rngD 0 j.toNat) e) _
  refine el.go ⟨(n : Int), rfl, by unfold okR; omega, ?_⟩
  rw [Int.toNat_natCast]
  exact q
section
variable {env e1 e2 : En} {w wa wb : EW} {x j c : Nat}
theorem dv_ok {i j : Int} (h : 1 ≤ j) (h' : j < 10 ^ 40) : CDvA i j :=
  ⟨by omega, PyProof.noPylong_of_log2 (PySem.Flt.log2_lt_of (by decide) (show j.natAbs < 2 ^ 9000 from Nat.lt_trans (show j.natAbs < 2 ^ 140 by omega) (Nat.pow_lt_pow_right (by decide) (by decide))))⟩
theorem fm_nn {i j : Int} (h : 1 ≤ j) : 0 ≤ i.fmod j ∧ i.fmod j < j := by
  rw [Int.fmod_eq_emod_of_nonneg i (by omega)]
  exact ⟨Int.emod_nonneg _ (by omega), Int.emod_lt_of_pos _ (by omega)⟩
end
structure EvG {α : Type} (g : α → D) (env : En) (w : EW) (xs : List α) (m : Nat) : Prop where
  ev : Ev env w (.lst (xs.map g)) env
  l : xs.length ≤ m
section
variable {α : Type} {g : α → D} {env : En} {w wa wb : EW} {xs ys : List α} {x : α} {m m2 i j k : Nat}
theorem g_to (h : EvG g env w xs m) (hk : EvR env wa (.fz (.int (k : Int))) env) : EvG g env (wSl w wNoP (wPt wa)) (xs.take k) m := ⟨EvR.ow (o := .lst ((xs.take k).map g)) ⟨fun {Q E} q => by
  unfold wSl wNoP wPt
  refine h.ev.go (hk.go ⟨(k : Int), rfl, .lst (xs.map g), rfl, ?_⟩)
  show Q (.ow (.lst (cutD (xs.map g) none (some (k : Int))))) _
  rw [cut_take, ← List.map_take]
  exact q⟩, Nat.le_trans (List.length_take_le' _ _) h.l⟩
theorem g_from (h : EvG g env w xs m) (hk : EvR env wa (.fz (.int (k : Int))) env) : EvG g env (wSl w (wPt wa) wNoP) (xs.drop k) m := ⟨by
  have := ev_slLL h.ev hk
  rw [cut_drop, ← List.map_drop] at this
  exact this.ow, by rw [List.length_drop]; have := h.l; omega⟩
theorem evR_add {d1 d2 : List D} {e1 e2 : En} (ha : Ev env wa (.lst d1) e1) (hb : Ev e1 wb (.lst d2) e2) (hl : d1.length + d2.length ≤ 1000) : EvR env (wOp2 gAdd wa wb) (.ow (.lst (d1 ++ d2))) e2 :=
  ev_op ha hb fun Q' q => ⟨by have := sizeLine_eq; omega, q⟩
theorem gR_add (ha : EvG g env wa xs m) (hb : EvG g env wb ys m2) (hl : m + m2 ≤ 1000 := by decide) : EvR env (wOp2 gAdd wa wb) (.ow (.lst ((xs ++ ys).map g))) env := by
  rw [List.map_append]
  exact evR_add ha.ev hb.ev (by rw [List.length_map, List.length_map]; have := ha.l; have := hb.l; omega)
theorem g_var (h : env[i]? = some (some (.fz (.lst (xs.map g))))) (hl : xs.length ≤ m) : EvG g env (wVar i) xs m := ⟨vx i h, hl⟩
end
section
variable {α : Type} {g : α → D} {env e1 e2 : En} {w wa wb : EW} {wl : AW} {xs ys : List α} {x : α} {m m2 i j k : Nat} {a : D} {o : O} {r : Rv} {rs : List Rv} {ds : List D}
theorem ev_opT {f : G2} (ha : Ev env wa a e1) (hb : e1[i]? = some (some (.ow o))) (hg : ∀ Q' : Rv → Prop, Q' r → f a o.d Q') (hn : ∀ xs, o ≠ .nst xs := by intro _ z; cases z) : EvR env (wOp2 f wa (wVar i)) r e1 := ⟨fun {Q E} q => by
  refine ha.go ?_
  unfold wFz
  simp only [wVar, hb]
  exact ⟨a, o.d, rfl, by cases o <;> first | exact absurd rfl (hn _) | simp only [Rv.frz, look, hb], hg _ q⟩⟩
end
theorem nat_of {i : Int} (h : 0 ≤ i) : ∃ k : Nat, i = (k : Int) := ⟨i.toNat, by omega⟩
section
variable {env e1 : En} {wl : AW} {w : EW} {i n : Nat}
/-- [f(k) for k in range(n)] -/
theorem lc_rngL {f : Nat → D} (hl : EvL env wl [.int (n : Int)] e1) (hn : n ≤ 900) (he : ∀ k, k < n → Ev ((e1.set i none).set i (some (.fz (.int (k : Int))))) w (f k) ((e1.set i none).set i (some (.fz (.int (k : Int)))))) : EvR env (wLc (.n i) (wRng1 wl) uYes w [i]) (.ow (.lst ((List.range n).map f))) (e1.set i none) :=
  ev_lcR hl (by omega) fun Q q => by
    have sz := sizeLine_eq
    have e : rngD 0 n = (List.range n).map fun k : Nat => D.int (k : Int) := by rw [rng_eq]; exact List.map_congr_left fun k _ => by rw [Int.zero_add]
    rw [e]
    refine cw_mapL (g := fun k : Nat => D.int (k : Int)) (f := f) True.intro (List.range n) [] (fun k hk => ⟨_, rfl, ?_, ?_⟩) (by rw [List.length_range]; show 0 + n < _; omega) q
    · simp only [wipeE, List.set_set]
    · simp only [wipeE]
      exact he k (List.mem_range.mp hk)
end
end LV
set_option maxHeartbeats 400000
namespace LV
abbrev Vc := Nat → Int
def sumN : Nat → (Nat → Int) → Int
  | 0, _ => 0
  | n + 1, f => sumN n f + f n
theorem sumN_congr {f g : Nat → Int} : ∀ {n : Nat}, (∀ i, i < n → f i = g i) → sumN n f = sumN n g
  | 0, _ => rfl
  | n + 1, h => by
    show sumN n f + f n = sumN n g + g n
    rw [sumN_congr fun i hi => h i (by omega), h n (by omega)]
theorem sumN_lin {f g : Nat → Int} (a b : Int) : ∀ n : Nat, sumN n (fun i => a * f i + b * g i) = a * sumN n f + b * sumN n g
  | 0 => by show (0 : Int) = a * 0 + b * 0; rw [Int.mul_zero, Int.mul_zero]; rfl
  | n + 1 => by
    show sumN n (fun i => a * f i + b * g i) + (a * f n + b * g n) = a * (sumN n f + f n) + b * (sumN n g + g n)
    rw [sumN_lin a b n, Int.mul_add, Int.mul_add]; omega
theorem sumN_zero : ∀ n : Nat, sumN n (fun _ => 0) = 0
  | 0 => rfl
  | n + 1 => by show sumN n (fun _ => 0) + 0 = 0; rw [sumN_zero n]; rfl
theorem sumN_abs {f : Nat → Int} {b : Nat} : ∀ {n : Nat}, (∀ i, i < n → (f i).natAbs ≤ b) → (sumN n f).natAbs ≤ n * b
  | 0, _ => by show (0 : Int).natAbs ≤ _; exact Nat.zero_le _
  | n + 1, h => by
    have h1 := sumN_abs (n := n) fun i hi => h i (by omega)
    have h2 := h n (by omega)
    show (sumN n f + f n).natAbs ≤ _
    rw [Nat.succ_mul]
    omega
theorem php : ∀ (K M : Nat) (f : Nat → Nat), K < M → (∀ x, x < M → f x < K) → ∃ x y, x < y ∧ y < M ∧ f x = f y
  | 0, M, f, h, hf => absurd (hf 0 h) (Nat.not_lt_zero _)
  | K + 1, 0, f, h, _ => by omega
  | K + 1, M + 1, f, h, hf => by
    by_cases e : ∃ x, x < M ∧ f x = f M
    · obtain ⟨x, hx, q⟩ := e
      exact ⟨x, M, hx, by omega, q⟩
    · have hne : ∀ x, x < M → f x ≠ f M := fun x hx q => e ⟨x, hx, q⟩
      obtain ⟨x, y, h1, h2, h3⟩ := php K M (fun x => if f M < f x then f x - 1 else f x) (by omega) (fun x hx => by
        have h1 := hf x (by omega)
        have h2 := hf M (by omega)
        have h3 := hne x hx
        show (if f M < f x then f x - 1 else f x) < K
        split <;> omega)
      refine ⟨x, y, h1, by omega, ?_⟩
      have hx := hne x (by omega)
      have hy := hne y h2
      split at h3 <;> split at h3 <;> omega
/-- digits -/
def dig (N x j : Nat) : Nat := x / N ^ j % N
theorem dig_ext {N : Nat} (hN : 0 < N) : ∀ (n x y : Nat), x < N ^ n → y < N ^ n → (∀ j, j < n → dig N x j = dig N y j) → x = y
  | 0, x, y, hx, hy, _ => by
    rw [Nat.pow_zero] at hx hy; omega
  | n + 1, x, y, hx, hy, h => by
    have e0 := h 0 (by omega)
    unfold dig at e0
    rw [Nat.pow_zero, Nat.div_one, Nat.div_one] at e0
    have q : x / N = y / N := by
      refine dig_ext hN n (x / N) (y / N) ?_ ?_ fun j hj => ?_
      · rw [Nat.div_lt_iff_lt_mul hN, ← Nat.pow_succ]; exact hx
      · rw [Nat.div_lt_iff_lt_mul hN, ← Nat.pow_succ]; exact hy
      · have := h (j + 1) (by omega)
        unfold dig at this ⊢
        rw [Nat.div_div_eq_div_mul, Nat.div_div_eq_div_mul, ← Nat.pow_succ']
        exact this
    rw [← Nat.div_add_mod x N, ← Nat.div_add_mod y N, q, e0]
/-- a code of m numbers below K -/
def codeK (K : Nat) (f : Nat → Nat) : Nat → Nat
  | 0 => 0
  | m + 1 => codeK K f m + f m * K ^ m
theorem codeK_lt {K : Nat} {f : Nat → Nat} : ∀ {m : Nat}, (∀ i, i < m → f i < K) → codeK K f m < K ^ m
  | 0, _ => by show 0 < K ^ 0; rw [Nat.pow_zero]; exact Nat.one_pos
  | m + 1, h => by
    have h1 := codeK_lt (m := m) fun i hi => h i (by omega)
    have h2 := h m (by omega)
    have h3 : (f m + 1) * K ^ m ≤ K * K ^ m := Nat.mul_le_mul_right _ (by omega)
    show codeK K f m + f m * K ^ m < K ^ (m + 1)
    rw [Nat.pow_succ', ]
    rw [Nat.succ_mul] at h3
    omega
theorem codeK_inj {K : Nat} {f g : Nat → Nat} : ∀ {m : Nat}, (∀ i, i < m → f i < K) → (∀ i, i < m → g i < K) → codeK K f m = codeK K g m → ∀ i, i < m → f i = g i
  | 0, _, _, _, i, hi => by omega
  | m + 1, hf, hg, e, i, hi => by
    have a := codeK_lt (m := m) fun i hi => hf i (by omega)
    have b := codeK_lt (m := m) fun i hi => hg i (by omega)
    have e' : codeK K f m + f m * K ^ m = codeK K g m + g m * K ^ m := e
    have hp : 0 < K ^ m := by omega
    have d1 : (codeK K f m + f m * K ^ m) / K ^ m = f m := by rw [Nat.add_mul_div_right _ _ hp, Nat.div_eq_of_lt a, Nat.zero_add]
    have d2 : (codeK K g m + g m * K ^ m) / K ^ m = g m := by rw [Nat.add_mul_div_right _ _ hp, Nat.div_eq_of_lt b, Nat.zero_add]
    have em : f m = g m := by rw [← d1, ← d2, e']
    have ec : codeK K f m = codeK K g m := by rw [em] at e'; omega
    by_cases z : i = m
    · rw [z]; exact em
    · exact codeK_inj (fun i hi => hf i (by omega)) (fun i hi => hg i (by omega)) ec i (by omega)
/-- fewer equations than unknowns: a small solution -/
theorem siegel {m n B : Nat} (A : Nat → Nat → Int) (hA : ∀ i, i < m → ∀ j, j < n → (A i j).natAbs ≤ B) (hmn : m < n) (hB : 1 ≤ B) :
    ∃ c : Nat → Int, (∃ j, j < n ∧ c j ≠ 0) ∧ (∀ j, j < n → (c j).natAbs ≤ (2 * n * B) ^ m) ∧ ∀ i, i < m → sumN n (fun j => A i j * c j) = 0 := by
  obtain ⟨a, ha⟩ : ∃ a, a = 2 * n * B := ⟨_, rfl⟩
  have a1 : 1 ≤ a := by
    rw [ha]
    have : 1 * 1 ≤ 2 * n * B := Nat.mul_le_mul (by omega) hB
    omega
  rw [← ha]
  obtain ⟨N, hN⟩ : ∃ N, N = a ^ m + 1 := ⟨_, rfl⟩
  have N0 : 0 < N := by omega
  -- the sums, moved up
  let S : Nat → Nat → Int := fun i x => sumN n fun j => A i j * (dig N x j : Int)
  have dl : ∀ x j, dig N x j ≤ N - 1 := fun x j => by
    have := Nat.mod_lt (x / N ^ j) N0
    show x / N ^ j % N ≤ _
    omega
  have hS : ∀ i, i < m → ∀ x, (S i x).natAbs ≤ n * (B * (N - 1)) := fun i hi x => sumN_abs fun j hj => by
    rw [Int.natAbs_mul]
    exact Nat.mul_le_mul (hA i hi j hj) (dl x j)
  obtain ⟨H, hH⟩ : ∃ H, H = n * (B * (N - 1)) := ⟨_, rfl⟩
  let T : Nat → Nat → Nat := fun x i => (S i x + H).toNat
  obtain ⟨K, hK⟩ : ∃ K, K = 2 * H + 1 := ⟨_, rfl⟩
  have hT : ∀ x i, i < m → T x i < K := fun x i hi => by
    have := hS i hi x
    show (S i x + H).toNat < K
    omega
  have big : K ^ m < N ^ n := by
    have k1 : K ≤ a * N := by
      have e : 2 * H = a * (N - 1) := by rw [hH, ha, Nat.mul_assoc 2 n B, Nat.mul_assoc 2 (n * B), Nat.mul_assoc n B]
      rw [hK, e]
      have : a * (N - 1) + a = a * N := by rw [← Nat.mul_succ]; congr 1; omega
      omega
    have k2 : K ^ m ≤ a ^ m * N ^ m := by rw [← Nat.mul_pow]; exact Nat.pow_le_pow_left k1 m
    have k3 : a ^ m * N ^ m < N ^ (m + 1) := by
      rw [Nat.pow_succ']
      exact Nat.mul_lt_mul_of_pos_right (by omega) (Nat.pow_pos N0)
    have k4 : N ^ (m + 1) ≤ N ^ n := Nat.pow_le_pow_right N0 (by omega)
    omega
  obtain ⟨x, y, hxy, hy, he⟩ := php (K ^ m) (N ^ n) (fun x => codeK K (T x) m) big fun x _ => codeK_lt fun i hi => hT x i hi
  have eqT : ∀ i, i < m → T x i = T y i := codeK_inj (fun i hi => hT x i hi) (fun i hi => hT y i hi) he
  refine ⟨fun j => (dig N y j : Int) - (dig N x j : Int), ?_, fun j hj => ?_, fun i hi => ?_⟩
  · by_cases z : ∃ j, j < n ∧ (dig N y j : Int) - (dig N x j : Int) ≠ 0
    · exact z
    · exfalso
      have : x = y := dig_ext N0 n x y (by omega) hy fun j hj => by
        by_cases q : dig N x j = dig N y j
        · exact q
        · exact absurd ⟨j, hj, by omega⟩ z
      omega
  · have h1 := dl x j
    have h2 := dl y j
    dsimp only
    omega
  · have e := eqT i hi
    have h1 := hS i hi x
    have h2 := hS i hi y
    have e2 : S i x = S i y := by
      have : (S i x + H).toNat = (S i y + H).toNat := e
      omega
    have : sumN n (fun j => A i j * ((dig N y j : Int) - (dig N x j : Int))) = 1 * S i y + (-1) * S i x := by
      show _ = 1 * sumN n (fun j => A i j * (dig N y j : Int)) + (-1) * sumN n (fun j => A i j * (dig N x j : Int))
      rw [← sumN_lin]
      exact sumN_congr fun j _ => by rw [Int.mul_sub]; omega
    rw [this, e2]; omega
inductive Sp (G : Vc → Prop) : Vc → Prop
  | zero : Sp G fun _ => 0
  | gen {v : Vc} : G v → Sp G v
  | lin {u v : Vc} (a b : Int) : Sp G u → Sp G v → Sp G fun j => a * u j + b * v j
  | div {v : Vc} {t : Int} : t ≠ 0 → (Sp G fun j => t * v j) → Sp G v
theorem Sp.sub {G H : Vc → Prop} (h : ∀ v, G v → Sp H v) {v : Vc} (k : Sp G v) : Sp H v := by
  induction k with
  | zero => exact .zero
  | gen g => exact h _ g
  | lin a b _ _ i1 i2 => exact .lin a b i1 i2
  | div t _ i => exact .div t i
theorem Sp.mono {G H : Vc → Prop} (h : ∀ v, G v → H v) {v : Vc} (k : Sp G v) : Sp H v := k.sub fun v g => .gen (h v g)
theorem Sp.congr {G : Vc → Prop} {u v : Vc} (k : Sp G u) (e : ∀ j, u j = v j) : Sp G v := by
  rw [← show u = v from funext e]; exact k
theorem Sp.smul {G : Vc → Prop} {u : Vc} (a : Int) (k : Sp G u) : Sp G fun j => a * u j :=
  (Sp.lin a 0 k .zero).congr fun j => by show a * u j + 0 * 0 = _; omega
theorem Sp.sum {G : Vc → Prop} {s : Nat → Vc} (c : Nat → Int) : ∀ {n : Nat}, (∀ i, i < n → Sp G (s i)) → Sp G fun j => sumN n fun i => c i * s i j
  | 0, _ => .zero
  | n + 1, h => (Sp.lin 1 (c n) (Sp.sum (n := n) c fun i hi => h i (by omega)) (h n (by omega))).congr fun j => by
    show 1 * sumN n (fun i => c i * s i j) + c n * s n j = sumN n (fun i => c i * s i j) + c n * s n j
    rw [Int.one_mul]
def InF (F : List (Vc × Nat)) (v : Vc) : Prop := ∃ p, p ∈ F ∧ v = p.1
structure Red (F : List (Vc × Nat)) : Prop where
  off : F.Pairwise fun p q => p.1 q.2 = 0 ∧ q.1 p.2 = 0
  ne : ∀ p, p ∈ F → p.1 p.2 ≠ 0
theorem Red.tail {q : Vc × Nat} {F : List (Vc × Nat)} (h : Red (q :: F)) : Red F := ⟨(List.pairwise_cons.mp h.off).2, fun p hp => h.ne p (List.mem_cons_of_mem _ hp)⟩
theorem Red.head {q : Vc × Nat} {F : List (Vc × Nat)} (h : Red (q :: F)) : ∀ p, p ∈ F → q.1 p.2 = 0 ∧ p.1 q.2 = 0 := (List.pairwise_cons.mp h.off).1
def elimS (q : Vc × Nat) (v : Vc) : Vc := fun j => q.1 q.2 * v j - v q.2 * q.1 j
def elim : List (Vc × Nat) → Vc → Vc
  | [], v => v
  | q :: F, v => elim F (elimS q v)
theorem elim_lin (a b : Int) : ∀ (F : List (Vc × Nat)) (u v : Vc), elim F (fun j => a * u j + b * v j) = fun j => a * elim F u j + b * elim F v j
  | [], _, _ => rfl
  | q :: F, u, v => by
    show elim F (elimS q fun j => a * u j + b * v j) = _
    rw [show (elimS q fun j => a * u j + b * v j) = fun j => a * elimS q u j + b * elimS q v j from funext fun j => by
      simp only [elimS, Int.mul_add, Int.mul_sub, Int.add_mul, Int.mul_assoc, Int.mul_left_comm (q.1 q.2)]
      omega]
    exact elim_lin a b F _ _
theorem elim_smul (a : Int) (F : List (Vc × Nat)) (u : Vc) : elim F (fun j => a * u j) = fun j => a * elim F u j := by
  have := elim_lin a 0 F u u
  rw [show (fun j => a * u j + 0 * u j) = fun j => a * u j from funext fun j => by rw [Int.zero_mul, Int.add_zero]] at this
  rw [this]
  funext j
  rw [Int.zero_mul, Int.add_zero]
theorem elim_zero (F : List (Vc × Nat)) : elim F (fun _ => 0) = fun _ => 0 := by
  have := elim_smul 0 F fun _ => 0
  rw [show (fun _ : Nat => (0 : Int) * 0) = fun _ => 0 from funext fun _ => rfl] at this
  rw [this]
  funext j
  rw [Int.zero_mul]
/-- what vanishes at the places is kept but for a factor -/
theorem elim_van : ∀ (F : List (Vc × Nat)) (v : Vc), (∀ p, p ∈ F → p.1 p.2 ≠ 0) → (∀ p, p ∈ F → v p.2 = 0) → ∃ D : Int, D ≠ 0 ∧ elim F v = fun j => D * v j
  | [], v, _, _ => ⟨1, by decide, funext fun j => by rw [Int.one_mul]; rfl⟩
  | q :: F, v, hn, hv => by
    obtain ⟨D, hD, e⟩ := elim_van F v (fun p hp => hn p (List.mem_cons_of_mem _ hp)) fun p hp => hv p (List.mem_cons_of_mem _ hp)
    refine ⟨q.1 q.2 * D, Int.mul_ne_zero (hn q List.mem_cons_self) hD, ?_⟩
    show elim F (elimS q v) = _
    rw [show elimS q v = fun j => q.1 q.2 * v j from funext fun j => by
      show q.1 q.2 * v j - v q.2 * q.1 j = _
      rw [hv q List.mem_cons_self, Int.zero_mul, Int.sub_zero], elim_smul, e]
    funext j
    rw [Int.mul_assoc]
theorem elim_gen : ∀ (F : List (Vc × Nat)), Red F → ∀ p, p ∈ F → elim F p.1 = fun _ => 0
  | [], _, p, hp => nomatch hp
  | q :: F, h, p, hp => by
    show elim F (elimS q p.1) = _
    rcases List.mem_cons.mp hp with rfl | hp
    · rw [show elimS p p.1 = fun _ => 0 from funext fun j => by show p.1 p.2 * p.1 j - p.1 p.2 * p.1 j = 0; omega]
      exact elim_zero F
    · rw [show elimS q p.1 = fun j => q.1 q.2 * p.1 j from funext fun j => by
        show q.1 q.2 * p.1 j - p.1 q.2 * q.1 j = _
        rw [(h.head p hp).2, Int.zero_mul, Int.sub_zero], elim_smul, elim_gen F h.tail p hp]
      funext j
      rw [Int.mul_zero]
theorem elim_sp {F : List (Vc × Nat)} (h : Red F) {v : Vc} (k : Sp (InF F) v) : elim F v = fun _ => 0 := by
  induction k with
  | zero => exact elim_zero F
  | gen g => obtain ⟨p, hp, rfl⟩ := g; exact elim_gen F h p hp
  | lin a b _ _ i1 i2 =>
    rw [elim_lin, i1, i2]
    funext j
    rw [Int.mul_zero, Int.mul_zero]; rfl
  | div t _ i =>
    rw [elim_smul] at i
    funext j
    have := congrFun i j
    exact (Int.mul_eq_zero.mp this).resolve_left t
theorem Red.zero {F : List (Vc × Nat)} (h : Red F) {v : Vc} (k : Sp (InF F) v) (hv : ∀ p, p ∈ F → v p.2 = 0) : ∀ j, v j = 0 := fun j => by
  obtain ⟨D, hD, e⟩ := elim_van F v h.ne hv
  rw [elim_sp h k] at e
  exact (Int.mul_eq_zero.mp (congrFun e j).symm).resolve_left hD
/-- what vanishes at the places of F is on the line of r -/
theorem Red.line {F : List (Vc × Nat)} (h : Red F) {r v : Vc} (hr : ∀ p, p ∈ F → r p.2 = 0) (k : Sp (fun v => InF F v ∨ v = r) v) (hv : ∀ p, p ∈ F → v p.2 = 0) : ∃ t m : Int, t ≠ 0 ∧ ∀ j, t * v j = m * r j := by
  have key : ∃ t m : Int, t ≠ 0 ∧ ∀ j, t * elim F v j = m * r j := by
    clear hv
    induction k with
    | zero => exact ⟨1, 0, by decide, fun j => by rw [elim_zero, Int.zero_mul, Int.mul_zero]⟩
    | gen g =>
      rcases g with ⟨p, hp, rfl⟩ | rfl
      · exact ⟨1, 0, by decide, fun j => by rw [elim_gen F h p hp, Int.zero_mul, Int.mul_zero]⟩
      · obtain ⟨D, _, e⟩ := elim_van F _ h.ne hr
        exact ⟨1, D, by decide, fun j => by rw [e, Int.one_mul]⟩
    | @lin u v a b _ _ i1 i2 =>
      obtain ⟨t1, m1, h1, e1⟩ := i1
      obtain ⟨t2, m2, h2, e2⟩ := i2
      refine ⟨t1 * t2, a * m1 * t2 + b * m2 * t1, Int.mul_ne_zero h1 h2, fun j => ?_⟩
      rw [elim_lin]
      have a1 : t1 * t2 * (a * elim F u j) = a * t2 * (t1 * elim F u j) := by
        rw [Int.mul_assoc, Int.mul_left_comm t2 a, Int.mul_left_comm t1 a, Int.mul_left_comm t1 t2, Int.mul_assoc]
      have a2 : t1 * t2 * (b * elim F v j) = b * t1 * (t2 * elim F v j) := by
        rw [Int.mul_assoc, Int.mul_left_comm t2 b, Int.mul_left_comm t1 b, Int.mul_assoc]
      rw [Int.mul_add, a1, a2, e1, e2, Int.add_mul]
      rw [show a * t2 * (m1 * r j) = a * m1 * t2 * r j by rw [Int.mul_assoc, Int.mul_assoc, Int.mul_assoc, Int.mul_left_comm t2 m1], show b * t1 * (m2 * r j) = b * m2 * t1 * r j by rw [Int.mul_assoc, Int.mul_assoc, Int.mul_assoc, Int.mul_left_comm t1 m2]]
    | @div v t ht _ i =>
      obtain ⟨t1, m1, h1, e1⟩ := i
      refine ⟨t1 * t, m1, Int.mul_ne_zero h1 ht, fun j => ?_⟩
      have := e1 j
      rw [elim_smul] at this
      rw [Int.mul_assoc]
      exact this
  obtain ⟨t, m, ht, e⟩ := key
  obtain ⟨D, hD, e2⟩ := elim_van F v h.ne hv
  refine ⟨t * D, m, Int.mul_ne_zero ht hD, fun j => ?_⟩
  rw [← e j, e2, Int.mul_assoc]
theorem elim_at {l : Nat} : ∀ (F : List (Vc × Nat)) (v : Vc), Red F → (∀ p, p ∈ F → p.2 ≠ l ∧ ∀ j, j < p.2 → p.1 j = 0) → (∀ p, p ∈ F → p.2 < l → v p.2 = 0) → ∃ D : Int, D ≠ 0 ∧ elim F v l = D * v l
  | [], v, _, _, _ => ⟨1, by decide, by rw [Int.one_mul]; rfl⟩
  | q :: F, v, h, hF, hv => by
    obtain ⟨ql, qz⟩ := hF q List.mem_cons_self
    have el : elimS q v l = q.1 q.2 * v l := by
      show q.1 q.2 * v l - v q.2 * q.1 l = _
      by_cases hlt : q.2 < l
      · rw [hv q List.mem_cons_self hlt, Int.zero_mul, Int.sub_zero]
      · rw [qz l (by omega), Int.mul_zero, Int.sub_zero]
    obtain ⟨D, hD, e⟩ := elim_at F (elimS q v) h.tail (fun p hp => hF p (List.mem_cons_of_mem _ hp)) fun p hp hl => by
      show q.1 q.2 * v p.2 - v q.2 * q.1 p.2 = 0
      rw [hv p (List.mem_cons_of_mem _ hp) hl, (h.head p hp).1, Int.mul_zero, Int.mul_zero]; rfl
    exact ⟨D * q.1 q.2, Int.mul_ne_zero hD (h.ne q List.mem_cons_self), by
      show elim F (elimS q v) l = _
      rw [e, el, Int.mul_assoc]⟩
/-- the first place of what is in the span is a place of F -/
theorem Red.lead {F : List (Vc × Nat)} (h : Red F) (hz : ∀ p, p ∈ F → ∀ j, j < p.2 → p.1 j = 0) {v : Vc} (k : Sp (InF F) v) {l : Nat} (hl : v l ≠ 0) (hv : ∀ j, j < l → v j = 0) : ∃ p, p ∈ F ∧ p.2 = l := by
  by_cases e : ∃ p, p ∈ F ∧ p.2 = l
  · exact e
  · exfalso
    obtain ⟨D, hD, q⟩ := elim_at (l := l) F v h (fun p hp => ⟨fun z => e ⟨p, hp, z⟩, hz p hp⟩) fun p _ hpl => hv _ hpl
    rw [elim_sp h k] at q
    exact Int.mul_ne_zero hD hl q.symm
def Prim (v : Vc) : Prop := ∀ d : Int, (∀ j, d ∣ v j) → d.natAbs = 1
theorem Prim.ne {v : Vc} (h : Prim v) : ∃ j, v j ≠ 0 := by
  by_cases e : ∃ j, v j ≠ 0
  · exact e
  · have := h 0 fun j => by
      by_cases z : v j = 0
      · rw [z]; exact Int.dvd_refl 0
      · exact absurd ⟨j, z⟩ e
    exact absurd this (by decide)
theorem Prim.ratio {r u : Vc} (h : Prim r) {t m : Int} (ht : t ≠ 0) (e : ∀ j, t * u j = m * r j) : ∃ k : Int, ∀ j, u j = k * r j := by
  obtain ⟨g, hg⟩ : ∃ g : Nat, g = Int.gcd t m := ⟨_, rfl⟩
  have g0 : 0 < g := by rw [hg]; exact Int.gcd_pos_of_ne_zero_left m ht
  obtain ⟨t', e1⟩ : (g : Int) ∣ t := by rw [hg]; exact Int.gcd_dvd_left ..
  obtain ⟨m', e2⟩ : (g : Int) ∣ m := by rw [hg]; exact Int.gcd_dvd_right ..
  have cop : Int.gcd t' m' = 1 := by
    have : Int.gcd ((g : Int) * t') ((g : Int) * m') = g * Int.gcd t' m' := by rw [Int.gcd_mul_left]; rfl
    rw [← e1, ← e2, ← hg] at this
    have h2 : g * 1 = g * Int.gcd t' m' := by rw [Nat.mul_one]; exact this
    exact (Nat.eq_of_mul_eq_mul_left g0 h2).symm
  have q : ∀ j, t' * u j = m' * r j := fun j => by
    have := e j
    rw [e1, e2, Int.mul_assoc, Int.mul_assoc] at this
    exact Int.eq_of_mul_eq_mul_left (by omega) this
  have dv : ∀ j, t' ∣ r j := fun j => by
    have h1 : t' ∣ m' * r j := ⟨u j, (q j).symm⟩
    have g1 : Int.gcd t' (m' * r j) = t'.natAbs := Nat.gcd_eq_left (Int.natAbs_dvd_natAbs.mpr h1)
    rw [Int.gcd_mul_right_right_of_gcd_eq_one cop] at g1
    have g2 : ((Int.gcd t' (r j) : Nat) : Int) ∣ r j := Int.gcd_dvd_right ..
    rw [g1] at g2
    exact Int.natAbs_dvd.mp g2
  have one := h t' dv
  rcases Int.natAbs_eq t' with z | z <;> rw [one] at z
  · exact ⟨m', fun j => by have := q j; rw [z] at this; rw [← this]; exact (Int.one_mul _).symm⟩
  · exact ⟨-m', fun j => by have := q j; rw [z] at this; rw [Int.neg_mul, ← this]; show u j = -(-1 * u j); omega⟩
theorem Prim.le {r u : Vc} (h : Prim r) {t m : Int} (ht : t ≠ 0) (hm : m ≠ 0) (e : ∀ j, t * u j = m * r j) : ∀ j, (r j).natAbs ≤ (u j).natAbs := fun j => by
  obtain ⟨k, hk⟩ := h.ratio ht e
  have k0 : k ≠ 0 := fun z => by
    obtain ⟨i, hi⟩ := h.ne
    have := e i
    rw [hk i, z, Int.zero_mul, Int.mul_zero] at this
    exact Int.mul_ne_zero hm hi this.symm
  rw [hk j, Int.natAbs_mul]
  have : 1 ≤ k.natAbs := by omega
  have := Nat.mul_le_mul_right (r j).natAbs this
  omega
theorem Prim.same {r u : Vc} (hr : Prim r) (hu : Prim u) {t m : Int} (ht : 0 < t) (hm : 0 < m) (e : ∀ j, t * u j = m * r j) : ∀ j, u j = r j := by
  obtain ⟨k, hk⟩ := hr.ratio (by omega) e
  have k1 : k.natAbs = 1 := hu k fun j => ⟨r j, hk j⟩
  have kp : 0 < k := by
    obtain ⟨i, hi⟩ := hr.ne
    have h1 := e i
    rw [hk i, ← Int.mul_assoc] at h1
    have h2 : t * k = m := by
      have h3 : (t * k - m) * r i = 0 := by rw [Int.sub_mul]; omega
      have := (Int.mul_eq_zero.mp h3).resolve_right hi
      omega
    by_cases z : 0 < k
    · exact z
    · have : t * k ≤ t * 0 := Int.mul_le_mul_of_nonneg_left (by omega) (by omega)
      omega
  have : k = 1 := by omega
  intro j
  rw [hk j, this, Int.one_mul]
end LV
namespace LV
def InS (n : Nat) (s : Nat → Vc) (v : Vc) : Prop := ∃ i, i < n ∧ v = s i
def Ind (n : Nat) (s : Nat → Vc) : Prop := ∀ c : Nat → Int, (∀ j, sumN n (fun i => c i * s i j) = 0) → ∀ i, i < n → c i = 0
/-- what lies on one line within the span of some of S is at most C -/
def HB (W C : Nat) (S : Vc → Prop) : Prop := ∀ (n : Nat) (s : Nat → Vc), n ≤ W → (∀ i, i < n → S (s i)) → Ind n s → ∀ (Z : List Nat) (r : Vc), Z.length + 1 = n → Sp (InS n s) r → (∀ z, z ∈ Z → r z = 0) → Prim r →
  (∀ v, Sp (InS n s) v → (∀ z, z ∈ Z → v z = 0) → ∃ t m : Int, t ≠ 0 ∧ ∀ j, t * v j = m * r j) → ∀ j, (r j).natAbs ≤ C
theorem hb_of {W B : Nat} (hB : 1 ≤ B) {S : Vc → Prop} (hS : ∀ v, S v → ∀ j, (v j).natAbs ≤ B) : HB W (W * ((2 * W * B) ^ (W - 1) * B)) S := fun n s hn hs hi Z r hZ hr hz pr line j => by
  obtain ⟨c, ⟨i0, hi0, c0⟩, hc, he⟩ := siegel (m := n - 1) (n := n) (B := B) (fun i j => s j (Z.getD i 0)) (fun i _ j hj => hS _ (hs j hj) _) (by omega) hB
  have hu : Sp (InS n s) fun j => sumN n fun i => c i * s i j := Sp.sum c fun i hi => .gen ⟨i, hi, rfl⟩
  have uz : ∀ z, z ∈ Z → (fun j => sumN n fun i => c i * s i j) z = 0 := fun z hz => by
    obtain ⟨i, hi, rfl⟩ := List.getElem_of_mem hz
    have := he i (by omega)
    rw [List.getD_eq_getElem?_getD, List.getElem?_eq_getElem hi, Option.getD_some] at this
    show sumN n (fun k => c k * s k Z[i]) = 0
    rw [← this]
    exact sumN_congr fun k _ => Int.mul_comm ..
  obtain ⟨t, m, ht, e⟩ := line _ hu uz
  have hm : m ≠ 0 := fun z => by
    refine c0 (hi c (fun j => ?_) i0 hi0)
    have := e j
    rw [z, Int.zero_mul] at this
    exact (Int.mul_eq_zero.mp this).resolve_left ht
  have h1 := pr.le ht hm e j
  have h2 : (sumN n fun i => c i * s i j).natAbs ≤ n * ((2 * n * B) ^ (n - 1) * B) := sumN_abs fun i hi => by
    rw [Int.natAbs_mul]
    exact Nat.mul_le_mul (hc i hi) (hS _ (hs i hi) j)
  have h3 : (2 * n * B) ^ (n - 1) ≤ (2 * W * B) ^ (W - 1) := by
    have a : 2 * n * B ≤ 2 * W * B := Nat.mul_le_mul_right _ (Nat.mul_le_mul_left _ hn)
    have b : 0 < 2 * W * B := Nat.mul_pos (by omega) (by omega)
    exact Nat.le_trans (Nat.pow_le_pow_left a _) (Nat.pow_le_pow_right b (by omega))
  exact Nat.le_trans h1 (Nat.le_trans h2 (Nat.mul_le_mul hn (Nat.mul_le_mul_right _ h3)))
structure Bas (S : Vc → Prop) (n : Nat) (s : Nat → Vc) (F : List (Vc × Nat)) : Prop where
  red : Red F
  len : F.length = n
  inS : ∀ i, i < n → S (s i)
  toF : ∀ i, i < n → Sp (InF F) (s i)
  ofF : ∀ p, p ∈ F → Sp (InS n s) p.1
  ind : Ind n s
theorem Bas.nil {S : Vc → Prop} {s : Nat → Vc} : Bas S 0 s [] := ⟨⟨.nil, fun _ h => nomatch h⟩, rfl, fun i h => absurd h (Nat.not_lt_zero _), fun i h => absurd h (Nat.not_lt_zero _), fun _ h => (nomatch h), fun _ _ i h => absurd h (Nat.not_lt_zero _)⟩
def ext (n : Nat) (s : Nat → Vc) (s0 : Vc) : Nat → Vc := fun i => if i < n then s i else s0
theorem ext_lt {n i : Nat} {s : Nat → Vc} {s0 : Vc} (h : i < n) : ext n s s0 i = s i := by unfold ext; rw [if_pos h]
theorem ext_at {n : Nat} {s : Nat → Vc} {s0 : Vc} : ext n s s0 n = s0 := by unfold ext; rw [if_neg (Nat.lt_irrefl n)]
theorem InS.ext {n : Nat} {s : Nat → Vc} {s0 v : Vc} (h : InS n s v) : InS (n + 1) (ext n s s0) v := by
  obtain ⟨i, hi, rfl⟩ := h
  exact ⟨i, by omega, (ext_lt hi).symm⟩
section
variable {S : Vc → Prop} {n W C q : Nat} {s : Nat → Vc} {F F' : List (Vc × Nat)} {s0 r : Vc}
/-- F and r -/
def InR (F : List (Vc × Nat)) (r v : Vc) : Prop := InF F v ∨ v = r
theorem Bas.sp (b : Bas S n s F) {v : Vc} (h : Sp (InS n s) v) : Sp (InF F) v := h.sub fun u ⟨i, hi, e⟩ => by rw [e]; exact b.toF i hi
theorem Bas.all (b : Bas S n s F) (ofR : Sp (InR F r) s0) {v : Vc} (h : Sp (InS (n + 1) (ext n s s0)) v) : Sp (InR F r) v := h.sub fun u ⟨i, hi, e⟩ => by
  rw [e]
  by_cases z : i < n
  · rw [ext_lt z]; exact (b.toF i z).mono fun _ k => .inl k
  · rw [show i = n by omega, ext_at]; exact ofR
theorem Bas.indAdd (b : Bas S n s F) (hr : ∀ p, p ∈ F → r p.2 = 0) (hq : r q ≠ 0) (toR : Sp (InS (n + 1) (ext n s s0)) r) : Ind (n + 1) (ext n s s0) := fun c hc => by
  have hs : ∀ j, sumN n (fun i => c i * s i j) + c n * s0 j = 0 := fun j => by
    have := hc j
    have e : sumN (n + 1) (fun i => c i * ext n s s0 i j) = sumN n (fun i => c i * s i j) + c n * s0 j := by
      show sumN n (fun i => c i * ext n s s0 i j) + c n * ext n s s0 n j = _
      rw [ext_at, sumN_congr fun i hi => by rw [ext_lt hi]]
    rw [← e]; exact this
  by_cases z : c n = 0
  · intro i hi
    by_cases k : i = n
    · rw [k]; exact z
    · refine b.ind c (fun j => ?_) i (by omega)
      have := hs j
      rw [z, Int.zero_mul, Int.add_zero] at this
      exact this
  · exfalso
    have h0 : Sp (InF F) s0 := .div z (((Sp.sum c b.toF).smul (-1)).congr fun j => by have := hs j; omega)
    have h1 : Sp (InF F) r := toR.sub fun u ⟨i, hi, e⟩ => by
      rw [e]
      by_cases k : i < n
      · rw [ext_lt k]; exact b.toF i k
      · rw [show i = n by omega, ext_at]; exact h0
    exact hq (b.red.zero h1 hr q)
theorem Bas.add (b : Bas S n s F) (hr : ∀ p, p ∈ F → r p.2 = 0) (hq : r q ≠ 0) (hS : S s0) (toR : Sp (InS (n + 1) (ext n s s0)) r) (ofR : Sp (InR F r) s0)
    (red : Red F') (len : F'.length = n + 1) (h1 : ∀ p, p ∈ F' → Sp (InR F r) p.1) (h2 : ∀ v, InR F r v → Sp (InF F') v) : Bas S (n + 1) (ext n s s0) F' where
  red := red
  len := len
  inS := fun i hi => by
    by_cases k : i < n
    · rw [ext_lt k]; exact b.inS i k
    · rw [show i = n by omega, ext_at]; exact hS
  toF := fun i hi => (b.all ofR (.gen ⟨i, hi, rfl⟩)).sub h2
  ofF := fun p hp => (h1 p hp).sub fun v hv => by
    rcases hv with ⟨p, hp, rfl⟩ | rfl
    · exact (b.ofF p hp).mono fun _ k => k.ext
    · exact toR
  ind := b.indAdd hr hq toR
theorem Bas.leftBound (hb : HB W C S) (b : Bas S n s F) (hn : n + 1 ≤ W) (hr : ∀ p, p ∈ F → r p.2 = 0) (pr : Prim r) (hS : S s0) (toR : Sp (InS (n + 1) (ext n s s0)) r) (ofR : Sp (InR F r) s0) : ∀ j, (r j).natAbs ≤ C := by
  obtain ⟨q, hq⟩ := pr.ne
  refine hb (n + 1) (ext n s s0) hn (fun i hi => ?_) (b.indAdd hr hq toR) (F.map (·.2)) r (by rw [List.length_map, b.len]) toR (fun z hz => ?_) pr fun v hv hz => b.red.line hr (b.all ofR hv) fun p hp => hz _ (List.mem_map.mpr ⟨p, hp, rfl⟩)
  · by_cases k : i < n
    · rw [ext_lt k]; exact b.inS i k
    · rw [show i = n by omega, ext_at]; exact hS
  · obtain ⟨p, hp, rfl⟩ := List.mem_map.mp hz
    exact hr p hp
theorem Bas.formBound (hb : HB W C S) (b : Bas S n s F) (hn : n ≤ W) {p : Vc × Nat} (hp : p ∈ F) (pr : Prim p.1) : ∀ j, (p.1 j).natAbs ≤ C := by
  obtain ⟨F1, F2, rfl⟩ := List.append_of_mem hp
  have off := b.red.off
  rw [List.pairwise_append, List.pairwise_cons] at off
  obtain ⟨o1, ⟨o2, o3⟩, o4⟩ := off
  have red : Red (F1 ++ F2) := ⟨by
    rw [List.pairwise_append]
    exact ⟨o1, o3, fun a ha c hc => o4 a ha c (List.mem_cons_of_mem _ hc)⟩, fun a ha => b.red.ne a (by
    rcases List.mem_append.mp ha with z | z
    · exact List.mem_append.mpr (.inl z)
    · exact List.mem_append.mpr (.inr (List.mem_cons_of_mem _ z)))⟩
  have hr : ∀ a, a ∈ F1 ++ F2 → p.1 a.2 = 0 := fun a ha => by
    rcases List.mem_append.mp ha with z | z
    · exact (o4 a z p List.mem_cons_self).2
    · exact (o2 a z).1
  have len := b.len
  rw [List.length_append, List.length_cons] at len
  refine hb n s hn b.inS b.ind ((F1 ++ F2).map (·.2)) p.1 (by rw [List.length_map, List.length_append]; omega) (b.ofF p hp) (fun z hz => ?_) pr fun v hv hz => red.line hr ((b.sp hv).mono fun u ⟨a, ha, e⟩ => ?_) fun a ha => hz _ (List.mem_map.mpr ⟨a, ha, rfl⟩)
  · obtain ⟨a, ha, rfl⟩ := List.mem_map.mp hz
    exact hr a ha
  · rcases List.mem_append.mp ha with z | z
    · exact .inl ⟨a, List.mem_append.mpr (.inl z), e⟩
    · rcases List.mem_cons.mp z with z | z
      · rw [e, z]; exact .inr rfl
      · exact .inl ⟨a, List.mem_append.mpr (.inr z), e⟩
end
def grow (F : List (Vc × Nat)) (r : Vc) (q : Nat) : List (Vc × Nat) := F.map (fun p => (fun j => r q * p.1 j - p.1 q * r j, p.2)) ++ [(r, q)]
section
variable {F : List (Vc × Nat)} {r : Vc} {q : Nat}
theorem grow_red (h : Red F) (hr : ∀ p, p ∈ F → r p.2 = 0) (hq : r q ≠ 0) : Red (grow F r q) where
  off := by
    unfold grow
    rw [List.pairwise_append, List.pairwise_map]
    refine ⟨h.off.imp_of_mem (S := fun a b => r q * a.1 b.2 - a.1 q * r b.2 = 0 ∧ r q * b.1 a.2 - b.1 q * r a.2 = 0) (fun {a b} ha hb hh => by
      rw [hh.1, hh.2, hr b hb, hr a ha, Int.mul_zero, Int.mul_zero, Int.mul_zero]
      exact ⟨rfl, rfl⟩), List.pairwise_singleton _ _, fun a ha c hc => ?_⟩
    rw [List.mem_singleton.mp hc]
    obtain ⟨p, hp, rfl⟩ := List.mem_map.mp ha
    refine ⟨?_, hr p hp⟩
    show r q * p.1 q - p.1 q * r q = 0
    rw [Int.mul_comm]; omega
  ne := fun a ha => by
    rcases List.mem_append.mp ha with z | z
    · obtain ⟨p, hp, rfl⟩ := List.mem_map.mp z
      show r q * p.1 p.2 - p.1 q * r p.2 ≠ 0
      rw [hr p hp, Int.mul_zero, Int.sub_zero]
      exact Int.mul_ne_zero hq (h.ne p hp)
    · rw [List.mem_singleton.mp z]; exact hq
theorem grow_len : (grow F r q).length = F.length + 1 := by unfold grow; rw [List.length_append, List.length_map]; rfl
theorem grow_of : ∀ p, p ∈ grow F r q → Sp (InR F r) p.1 := fun p hp => by
  rcases List.mem_append.mp hp with z | z
  · obtain ⟨a, ha, rfl⟩ := List.mem_map.mp z
    exact (Sp.lin (r q) (-a.1 q) (.gen (.inl ⟨a, ha, rfl⟩)) (.gen (.inr rfl))).congr fun j => by
      show r q * a.1 j + -a.1 q * r j = r q * a.1 j - a.1 q * r j
      rw [Int.neg_mul]; omega
  · rw [List.mem_singleton.mp z]; exact .gen (.inr rfl)
theorem grow_to (hq : r q ≠ 0) : ∀ v, InR F r v → Sp (InF (grow F r q)) v := fun v hv => by
  have hR : Sp (InF (grow F r q)) r := .gen ⟨(r, q), List.mem_append.mpr (.inr List.mem_cons_self), rfl⟩
  rcases hv with ⟨p, hp, rfl⟩ | rfl
  · have h1 : Sp (InF (grow F r q)) fun j => r q * p.1 j - p.1 q * r j := .gen ⟨_, List.mem_append.mpr (.inl (List.mem_map.mpr ⟨p, hp, rfl⟩)), rfl⟩
    exact .div hq ((Sp.lin 1 (p.1 q) h1 hR).congr fun j => by omega)
  · exact hR
end
theorem bound_ex : ∀ (n : Nat) (f : Nat → Nat), ∃ B, ∀ j, j < n → f j ≤ B
  | 0, f => ⟨0, fun j h => absurd h (Nat.not_lt_zero _)⟩
  | n + 1, f => by
    obtain ⟨B, h⟩ := bound_ex n f
    refine ⟨B + f n, fun j hj => ?_⟩
    by_cases z : j = n
    · rw [z]; omega
    · have := h j (by omega); omega
theorem sumN_one {f : Nat → Int} {k : Nat} : ∀ {n : Nat}, k < n → (∀ i, i < n → i ≠ k → f i = 0) → sumN n f = f k
  | 0, h, _ => absurd h (Nat.not_lt_zero _)
  | n + 1, h, hf => by
    show sumN n f + f n = f k
    by_cases z : k = n
    · rw [z, show sumN n f = sumN n (fun _ => 0) from sumN_congr fun i hi => hf i (by omega) (by omega), sumN_zero, Int.zero_add]
    · rw [sumN_one (n := n) (by omega) fun i hi => hf i (by omega), hf n (by omega) (by omega), Int.add_zero]
theorem rank_le {F G : List (Vc × Nat)} (hF : Red F) (hG : Red G) (h : ∀ p, p ∈ F → Sp (InF G) p.1) : F.length ≤ G.length := by
  by_cases z : F.length ≤ G.length
  · exact z
  · exfalso
    let A : Nat → Nat → Int := fun i j => (F.getD j (fun _ => 0, 0)).1 (G.getD i (fun _ => 0, 0)).2
    obtain ⟨B0, hB0⟩ := bound_ex G.length fun i => (bound_ex F.length fun j => (A i j).natAbs).choose
    obtain ⟨c, ⟨k, hk, ck⟩, _, he⟩ := siegel (m := G.length) (n := F.length) (B := B0 + 1) A (fun i hi j hj => by
      have h1 := hB0 i hi
      have h2 := (bound_ex F.length fun j => (A i j).natAbs).choose_spec j hj
      omega) (by omega) (by omega)
    have hu : Sp (InF G) fun j => sumN F.length fun i => c i * (F.getD i (fun _ => 0, 0)).1 j := Sp.sum (s := fun i => (F.getD i (fun _ => 0, 0)).1) c fun i hi => by
      rw [List.getD_eq_getElem?_getD, List.getElem?_eq_getElem hi, Option.getD_some]
      exact h _ (List.getElem_mem _)
    have uz := hG.zero hu fun p hp => by
      obtain ⟨i, hi, rfl⟩ := List.getElem_of_mem hp
      have := he i hi
      refine Eq.trans (sumN_congr fun j _ => ?_) this
      show _ = (F.getD j (fun _ => 0, 0)).1 (G.getD i (fun _ => 0, 0)).2 * c j
      rw [Int.mul_comm, List.getD_eq_getElem?_getD (l := G), List.getElem?_eq_getElem hi, Option.getD_some]
    have e := uz F[k].2
    have off := List.pairwise_iff_getElem.mp hF.off
    rw [sumN_one (k := k) hk fun i hi hik => ?_] at e
    · rw [List.getD_eq_getElem?_getD, List.getElem?_eq_getElem hk, Option.getD_some] at e
      exact Int.mul_ne_zero ck (hF.ne _ (List.getElem_mem hk)) e
    · rw [List.getD_eq_getElem?_getD, List.getElem?_eq_getElem hi, Option.getD_some]
      rcases Nat.lt_or_gt_of_ne hik with q | q
      · rw [(off i k hi hk q).1, Int.mul_zero]
      · rw [(off k i hk hi q).2, Int.mul_zero]
structure Frm (F : List (Vc × Nat)) : Prop where
  red : Red F
  asc : F.Pairwise fun p q => p.2 < q.2
  low : ∀ p, p ∈ F → ∀ j, j < p.2 → p.1 j = 0
  pos : ∀ p, p ∈ F → 0 < p.1 p.2
  prim : ∀ p, p ∈ F → Prim p.1
theorem asc_ext {α : Type} (key : α → Nat) : ∀ {a b : List α}, a.Pairwise (fun x y => key x < key y) → b.Pairwise (fun x y => key x < key y) → (∀ x, x ∈ a → x ∈ b) → (∀ x, x ∈ b → x ∈ a) → a = b
  | [], [], _, _, _, _ => rfl
  | [], y :: b, _, _, _, h => nomatch h y List.mem_cons_self
  | x :: a, [], _, _, h, _ => nomatch h x List.mem_cons_self
  | x :: a, y :: b, ha, hb, h1, h2 => by
    rw [List.pairwise_cons] at ha hb
    have e : x = y := by
      rcases List.mem_cons.mp (h1 x List.mem_cons_self) with z | z
      · exact z
      · rcases List.mem_cons.mp (h2 y List.mem_cons_self) with k | k
        · exact k.symm
        · have := hb.1 x z
          have := ha.1 y k
          omega
    subst e
    rw [asc_ext key ha.2 hb.2 (fun z hz => ?_) fun z hz => ?_]
    · rcases List.mem_cons.mp (h1 z (List.mem_cons_of_mem _ hz)) with k | k
      · have := ha.1 z hz
        rw [k] at this; omega
      · exact k
    · rcases List.mem_cons.mp (h2 z (List.mem_cons_of_mem _ hz)) with k | k
      · have := hb.1 z hz
        rw [k] at this; omega
      · exact k
theorem Frm.place {F G : List (Vc × Nat)} (hF : Frm F) (hG : Frm G) (h : ∀ v, InF G v → Sp (InF F) v) {q : Vc × Nat} (hq : q ∈ G) : ∃ p, p ∈ F ∧ p.2 = q.2 :=
  hF.red.lead hF.low (h q.1 ⟨q, hq, rfl⟩) (hG.red.ne q hq) (hG.low q hq)
theorem Frm.same {F G : List (Vc × Nat)} (hF : Frm F) (hG : Frm G) (h1 : ∀ v, InF F v → Sp (InF G) v) (h2 : ∀ v, InF G v → Sp (InF F) v) {p q : Vc × Nat} (hp : p ∈ F) (hq : q ∈ G) (e : p.2 = q.2) : p = q := by
  have pw : ∀ (H : List (Vc × Nat)), Red H → ∀ a, a ∈ H → ∀ b, b ∈ H → a.2 ≠ b.2 → a.1 b.2 = 0 := fun H hH a ha b hb ne => by
    obtain ⟨i, hi, rfl⟩ := List.getElem_of_mem ha
    obtain ⟨j, hj, rfl⟩ := List.getElem_of_mem hb
    have off := List.pairwise_iff_getElem.mp hH.off
    rcases Nat.lt_or_ge i j with z | z
    · exact (off i j hi hj z).1
    · rcases Nat.lt_or_eq_of_le z with k | k
      · exact (off j i hj hi k).2
      · subst k; exact absurd rfl ne
  have hv : Sp (InF F) fun j => q.1 p.2 * p.1 j + (-p.1 p.2) * q.1 j := .lin _ _ (.gen ⟨p, hp, rfl⟩) (h2 q.1 ⟨q, hq, rfl⟩)
  have z := hF.red.zero hv fun a ha => by
    show q.1 p.2 * p.1 a.2 + (-p.1 p.2) * q.1 a.2 = 0
    by_cases k : a.2 = p.2
    · rw [k, Int.mul_comm, Int.neg_mul]; omega
    · obtain ⟨b, hb, eb⟩ := hG.place hF h1 ha
      rw [pw F hF.red p hp a ha (fun z => k z.symm), ← eb, pw G hG.red q hq b hb (by rw [eb, ← e]; exact fun z => k z.symm), Int.mul_zero, Int.mul_zero]; rfl
  have := (hF.prim p hp).same (hG.prim q hq) (hF.pos p hp) (by rw [e]; exact hG.pos q hq) (t := p.1 p.2) (m := q.1 p.2) fun j => by
    have := z j
    rw [Int.neg_mul] at this
    omega
  obtain ⟨a, b⟩ := p
  obtain ⟨c, d⟩ := q
  have e1 : b = d := e
  have e2 : a = c := (funext this).symm
  rw [e1, e2]
theorem Frm.uniq {F G : List (Vc × Nat)} (hF : Frm F) (hG : Frm G) (h1 : ∀ v, InF F v → Sp (InF G) v) (h2 : ∀ v, InF G v → Sp (InF F) v) : F = G :=
  asc_ext (·.2) hF.asc hG.asc (fun p hp => by
    obtain ⟨q, hq, e⟩ := hG.place hF h1 hp
    rw [hF.same hG h1 h2 hp hq e.symm]; exact hq) fun q hq => by
    obtain ⟨p, hp, e⟩ := hF.place hG h2 hq
    rw [← hF.same hG h1 h2 hp hq e]; exact hp
end LV
namespace LV
def fv (r : List Int) : Vc := fun j => r.getD j 0
theorem fv_nil (j : Nat) : fv [] j = 0 := rfl
theorem fv_zero (x : Int) (l : List Int) : fv (x :: l) 0 = x := rfl
theorem fv_succ (x : Int) (l : List Int) (j : Nat) : fv (x :: l) (j + 1) = fv l j := by
  unfold fv; rw [List.getD_eq_getElem?_getD, List.getD_eq_getElem?_getD, List.getElem?_cons_succ]
theorem fv_out {r : List Int} {j : Nat} (h : r.length ≤ j) : fv r j = 0 := by
  unfold fv; rw [List.getD_eq_getElem?_getD, List.getElem?_eq_none h]; rfl
theorem fv_in {r : List Int} {j : Nat} (h : j < r.length) : fv r j ∈ r := by
  unfold fv; rw [List.getD_eq_getElem?_getD, List.getElem?_eq_getElem h, Option.getD_some]; exact List.getElem_mem _
theorem fv_mem {r : List Int} {x : Int} (h : x ∈ r) : ∃ j, j < r.length ∧ fv r j = x := by
  obtain ⟨j, hj, e⟩ := List.getElem_of_mem h
  exact ⟨j, hj, by unfold fv; rw [List.getD_eq_getElem?_getD, List.getElem?_eq_getElem hj, Option.getD_some, e]⟩
theorem fv_ext : ∀ {a b : List Int}, a.length = b.length → (∀ j, fv a j = fv b j) → a = b
  | [], [], _, _ => rfl
  | x :: a, y :: b, hl, h => by
    have h0 := h 0
    rw [fv_zero, fv_zero] at h0
    rw [h0, fv_ext (a := a) (b := b) (by simpa using hl) fun j => by have := h (j + 1); rwa [fv_succ, fv_succ] at this]
  | [], _ :: _, hl, _ => by simp at hl
  | _ :: _, [], hl, _ => by simp at hl
theorem fv_map {g : Int → Int} (h0 : g 0 = 0) : ∀ (r : List Int) (j : Nat), fv (r.map g) j = g (fv r j)
  | [], j => by rw [List.map_nil, fv_nil, h0]
  | x :: r, 0 => by rw [List.map_cons, fv_zero, fv_zero]
  | x :: r, j + 1 => by rw [List.map_cons, fv_succ, fv_succ, fv_map h0 r j]
theorem fv_zip {g : Int → Int → Int} (h0 : g 0 0 = 0) : ∀ (r p : List Int) (j : Nat), r.length = p.length → fv (List.zipWith g r p) j = g (fv r j) (fv p j)
  | [], [], j, _ => by rw [List.zipWith_nil_left, fv_nil, h0]
  | x :: r, y :: p, 0, _ => rfl
  | x :: r, y :: p, j + 1, h => by rw [List.zipWith_cons_cons, fv_succ, fv_succ, fv_succ, fv_zip h0 r p j (by simpa using h)]
  | [], _ :: _, _, h => by simp at h
  | _ :: _, [], _, h => by simp at h
def gfold : Nat → List Int → Nat
  | g, [] => g
  | g, x :: l => gfold (Int.gcd g x) l
theorem gfold_dvd : ∀ (l : List Int) (g : Nat), (gfold g l ∣ g) ∧ ∀ x, x ∈ l → (gfold g l : Int) ∣ x
  | [], g => ⟨Nat.dvd_refl _, fun _ h => nomatch h⟩
  | x :: l, g => by
    obtain ⟨h1, h2⟩ := gfold_dvd l (Int.gcd g x)
    have d1 : Int.gcd g x ∣ g := Int.ofNat_dvd.mp (Int.gcd_dvd_left ..)
    refine ⟨Nat.dvd_trans h1 d1, fun y hy => ?_⟩
    rcases List.mem_cons.mp hy with rfl | hy
    · exact Int.dvd_trans (Int.ofNat_dvd.mpr h1) (Int.gcd_dvd_right ..)
    · exact h2 y hy
theorem gfold_max : ∀ (l : List Int) (g : Nat) (d : Int), d ∣ (g : Int) → (∀ x, x ∈ l → d ∣ x) → d ∣ (gfold g l : Int)
  | [], g, d, h, _ => h
  | x :: l, g, d, h, hx => gfold_max l _ d (Int.dvd_coe_gcd h (hx x List.mem_cons_self)) fun y hy => hx y (List.mem_cons_of_mem _ hy)
theorem gfold_zero {l : List Int} (h : gfold 0 l = 0) : ∀ x, x ∈ l → x = 0 := fun x hx => by
  have := (gfold_dvd l 0).2 x hx
  rw [h] at this
  exact Int.zero_dvd.mp this
def leadL : List Int → Nat
  | [] => 0
  | x :: l => if x ≠ 0 then 0 else leadL l + 1
theorem leadL_le : ∀ r : List Int, leadL r ≤ r.length
  | [] => Nat.le_refl _
  | x :: l => by unfold leadL; rw [List.length_cons]; split; exact Nat.zero_le _; have := leadL_le l; omega
theorem leadL_low : ∀ (r : List Int) (j : Nat), j < leadL r → fv r j = 0
  | [], j, _ => rfl
  | x :: l, j, h => by
    unfold leadL at h
    split at h
    · omega
    · rename_i hx
      cases j with
      | zero => rw [fv_zero]; exact Classical.not_not.mp hx
      | succ j => rw [fv_succ]; exact leadL_low l j (by omega)
theorem leadL_at : ∀ {r : List Int}, leadL r < r.length → fv r (leadL r) ≠ 0
  | [], h => by simp at h
  | x :: l, h => by
    unfold leadL at h ⊢
    by_cases hx : x ≠ 0
    · rw [if_pos hx]; exact hx
    · rw [if_neg hx] at h ⊢
      rw [fv_succ]
      exact leadL_at (by rw [List.length_cons] at h; omega)
theorem leadL_eq {r : List Int} {l : Nat} (h : fv r l ≠ 0) (hz : ∀ j, j < l → fv r j = 0) : leadL r = l := by
  rcases Nat.lt_trichotomy (leadL r) l with k | k | k
  · by_cases z : leadL r < r.length
    · exact absurd (hz _ k) (leadL_at z)
    · exact absurd (fv_out (by have := leadL_le r; omega)) h
  · exact k
  · exact absurd (leadL_low r l k) h
theorem leadL_none {r : List Int} (h : ∀ j, fv r j = 0) : leadL r = r.length := by
  by_cases z : leadL r < r.length
  · exact absurd (h _) (leadL_at z)
  · have := leadL_le r; omega
/-- what it is divided by -/
def sdivL (r : List Int) : Int := if fv r (leadL r) < 0 then -(gfold 0 r : Int) else (gfold 0 r : Int)
def simpL (r : List Int) : List Int := if gfold 0 r = 0 then r else r.map fun x => x.fdiv (sdivL r)
/-- the first entry that is not nought is above nought -/
def LeadPos (v : Vc) : Prop := ∀ l, v l ≠ 0 → (∀ j, j < l → v j = 0) → 0 < v l
def Norm (v : Vc) : Prop := (∀ j, v j = 0) ∨ (Prim v ∧ LeadPos v)
theorem simpL_len (r : List Int) : (simpL r).length = r.length := by unfold simpL; split; rfl; rw [List.length_map]
theorem sdivL_dvd (r : List Int) (j : Nat) : sdivL r ∣ fv r j := by
  have h : (gfold 0 r : Int) ∣ fv r j := by
    by_cases z : j < r.length
    · exact (gfold_dvd r 0).2 _ (fv_in z)
    · rw [fv_out (by omega)]; exact Int.dvd_zero _
  unfold sdivL
  split
  · exact Int.neg_dvd.mpr h
  · exact h
theorem simpL_eq {r : List Int} (h : gfold 0 r ≠ 0) (j : Nat) : fv r j = sdivL r * fv (simpL r) j := by
  unfold simpL
  rw [if_neg h, fv_map (by rw [Int.zero_fdiv])]
  obtain ⟨k, hk⟩ := sdivL_dvd r j
  have d0 : sdivL r ≠ 0 := by unfold sdivL; split <;> omega
  rw [hk, Int.mul_fdiv_cancel_left k d0]
theorem simpL_mul (r : List Int) : ∃ t : Int, t ≠ 0 ∧ ∀ j, fv r j = t * fv (simpL r) j := by
  by_cases h : gfold 0 r = 0
  · exact ⟨1, by decide, fun j => by unfold simpL; rw [if_pos h, Int.one_mul]⟩
  · exact ⟨sdivL r, by unfold sdivL; split <;> omega, simpL_eq h⟩
theorem simpL_norm (r : List Int) : Norm (fv (simpL r)) := by
  by_cases h : gfold 0 r = 0
  · refine .inl fun j => ?_
    unfold simpL
    rw [if_pos h]
    by_cases z : j < r.length
    · exact gfold_zero h _ (fv_in z)
    · exact fv_out (by omega)
  · refine .inr ⟨fun d hd => ?_, fun l hl hz => ?_⟩
    · have h1 : d * sdivL r ∣ (gfold 0 r : Int) := gfold_max r 0 _ (Int.dvd_zero _) fun x hx => by
        obtain ⟨j, _, rfl⟩ := fv_mem hx
        rw [simpL_eq h j, Int.mul_comm d]
        exact Int.mul_dvd_mul_left _ (hd j)
      have h2 : (d * sdivL r).natAbs ∣ gfold 0 r := Int.natAbs_dvd_natAbs.mpr h1
      have h3 : (sdivL r).natAbs = gfold 0 r := by unfold sdivL; split <;> omega
      rw [Int.natAbs_mul, h3] at h2
      have h4 := Nat.le_of_dvd (by omega) h2
      have d0 : d.natAbs ≠ 0 := fun z => by
        rw [z, Nat.zero_mul] at h2
        exact h (Nat.zero_dvd.mp h2)
      have h5 : d.natAbs * gfold 0 r ≤ 1 * gfold 0 r := by omega
      have := Nat.le_of_mul_le_mul_right h5 (by omega)
      omega
    · have e := simpL_eq h
      have d0 : sdivL r ≠ 0 := by unfold sdivL; split <;> omega
      have hr : fv r l ≠ 0 := by rw [e l]; exact Int.mul_ne_zero d0 hl
      have hrz : ∀ j, j < l → fv r j = 0 := fun j hj => by rw [e j, hz j hj, Int.mul_zero]
      have el := leadL_eq hr hrz
      have q := e l
      unfold sdivL at q
      rw [el] at q
      by_cases neg : fv r l < 0
      · rw [if_pos neg] at q
        by_cases p : 0 < fv (simpL r) l
        · exact p
        · have : 0 ≤ -(gfold 0 r : Int) * fv (simpL r) l := Int.mul_nonneg_of_nonpos_of_nonpos (by omega) (by omega)
          omega
      · rw [if_neg neg] at q
        by_cases p : 0 < fv (simpL r) l
        · exact p
        · have : (gfold 0 r : Int) * fv (simpL r) l ≤ (gfold 0 r : Int) * 0 := Int.mul_le_mul_of_nonneg_left (by omega) (by omega)
          omega
theorem simpL_abs (r : List Int) (j : Nat) : (fv (simpL r) j).natAbs ≤ (fv r j).natAbs := by
  obtain ⟨t, ht, e⟩ := simpL_mul r
  rw [e j, Int.natAbs_mul]
  have : 1 * (fv (simpL r) j).natAbs ≤ t.natAbs * (fv (simpL r) j).natAbs := Nat.mul_le_mul_right _ (by omega)
  omega
def clrL (r p : List Int) (q : Nat) : List Int := if fv r q = 0 then r else simpL (List.zipWith (fun x y => fv p q * x - fv r q * y) r p)
section
variable {r p : List Int} {q : Nat}
theorem clrL_len (h : r.length = p.length) : (clrL r p q).length = r.length := by
  unfold clrL
  split
  · rfl
  · rw [simpL_len, List.length_zipWith]; omega
theorem clrL_mul (h : r.length = p.length) (hp : fv p q ≠ 0) : ∃ t a b : Int, t ≠ 0 ∧ a ≠ 0 ∧ (∀ j, t * fv (clrL r p q) j = a * fv r j + b * fv p j) ∧ fv (clrL r p q) q = 0 := by
  unfold clrL
  split
  · rename_i z
    exact ⟨1, 1, 0, by decide, by decide, fun j => by rw [Int.zero_mul, Int.add_zero], z⟩
  · obtain ⟨t, ht, e⟩ := simpL_mul (List.zipWith (fun x y => fv p q * x - fv r q * y) r p)
    have e2 : ∀ j, t * fv (simpL (List.zipWith (fun x y => fv p q * x - fv r q * y) r p)) j = fv p q * fv r j + (-fv r q) * fv p j := fun j => by
      rw [← e j, fv_zip (by rw [Int.mul_zero, Int.mul_zero]; rfl) r p j h, Int.neg_mul]; omega
    refine ⟨t, fv p q, -fv r q, ht, hp, e2, ?_⟩
    have := e2 q
    rw [Int.neg_mul, Int.mul_comm (fv p q)] at this
    exact (Int.mul_eq_zero.mp (by omega)).resolve_left ht
theorem clrL_norm (h : Norm (fv r)) : Norm (fv (clrL r p q)) := by
  unfold clrL
  split
  · exact h
  · exact simpL_norm _
end
def idxW : List (List Int) → Nat → Option Nat
  | [], _ => none
  | r :: l, q => if fv r q ≠ 0 then some 0 else (idxW l q).map (· + 1)
theorem idxW_none : ∀ {l : List (List Int)} {q : Nat}, idxW l q = none → ∀ r, r ∈ l → fv r q = 0
  | [], _, _, _, h => nomatch h
  | x :: l, q, h, r, hr => by
    unfold idxW at h
    split at h
    · cases h
    · rename_i z
      rcases List.mem_cons.mp hr with rfl | k
      · exact Classical.not_not.mp z
      · exact idxW_none (Option.map_eq_none_iff.mp h) r k
theorem idxW_some : ∀ {l : List (List Int)} {q i : Nat}, idxW l q = some i → ∃ p, l[i]? = some p ∧ fv p q ≠ 0 ∧ i < l.length
  | [], _, _, h => nomatch h
  | x :: l, q, i, h => by
    unfold idxW at h
    split at h
    · rename_i z
      cases h
      exact ⟨x, rfl, z, by rw [List.length_cons]; omega⟩
    · obtain ⟨k, hk, rfl⟩ := Option.map_eq_some_iff.mp h
      obtain ⟨p, h1, h2, h3⟩ := idxW_some hk
      exact ⟨p, h1, h2, by rw [List.length_cons]; omega⟩
/-- left over, forms -/
abbrev RSt := List (List Int) × List (List Int)
def stepL (st : RSt) (q : Nat) : RSt := match idxW st.1 q with
  | none => st
  | some i => ((st.1.take i ++ st.1.drop (i + 1)).map fun r => clrL r (st.1.getD i []) q, st.2.map (fun r => clrL r (st.1.getD i []) q) ++ [st.1.getD i []])
def stL (rows : List (List Int)) : Nat → RSt
  | 0 => (rows.map simpL, [])
  | q + 1 => stepL (stL rows q) q
def redL (rows : List (List Int)) (w : Nat) : List (List Int) := (stL rows w).2
theorem mem_split {α : Type} {l : List α} {i : Nat} {p : α} (h : l[i]? = some p) : ∀ r, r ∈ l → r = p ∨ r ∈ l.take i ++ l.drop (i + 1) := fun r hr => by
  have hi : i < l.length := by
    by_cases z : i < l.length
    · exact z
    · rw [List.getElem?_eq_none (by omega)] at h; cases h
  have e : l = l.take i ++ l[i] :: l.drop (i + 1) := by rw [← List.drop_eq_getElem_cons hi, List.take_append_drop]
  rw [List.getElem?_eq_getElem hi] at h
  cases h
  rw [e] at hr
  rcases List.mem_append.mp hr with z | z
  · exact .inr (List.mem_append.mpr (.inl z))
  · rcases List.mem_cons.mp z with z | z
    · exact .inl z
    · exact .inr (List.mem_append.mpr (.inr z))
theorem mem_unsplit {α : Type} {l : List α} {i : Nat} {r : α} (h : r ∈ l.take i ++ l.drop (i + 1)) : r ∈ l := by
  rcases List.mem_append.mp h with z | z
  · exact List.mem_of_mem_take z
  · exact List.mem_of_mem_drop z
def prF (FP : List (List Int × Nat)) : List (Vc × Nat) := FP.map fun p => (fv p.1, p.2)
/-- left over: made of one more of the given rows -/
structure LfOk (S : Vc → Prop) (n : Nat) (s : Nat → Vc) (F : List (Vc × Nat)) (q : Nat) (v : Vc) : Prop where
  norm : Norm v
  low : ∀ j, j < q → v j = 0
  ex : ∃ s0, S s0 ∧ Sp (InS (n + 1) (ext n s s0)) v ∧ Sp (InR F v) s0
structure RInv (S : Vc → Prop) (w q : Nat) (st : RSt) (n : Nat) (s : Nat → Vc) (FP : List (List Int × Nat)) : Prop where
  forms : st.2 = FP.map (·.1)
  bas : Bas S n s (prF FP)
  frm : Frm (prF FP)
  plt : ∀ p, p ∈ FP → p.2 < q
  left : ∀ r, r ∈ st.1 → LfOk S n s (prF FP) q (fv r)
  len1 : ∀ r, r ∈ st.1 → r.length = w
  len2 : ∀ p, p ∈ FP → p.1.length = w
  to : ∀ v, S v → Sp (fun u => InF (prF FP) u ∨ ∃ r, r ∈ st.1 ∧ u = fv r) v
theorem prF_mem {FP : List (List Int × Nat)} {p : Vc × Nat} (h : p ∈ prF FP) : ∃ a, a ∈ FP ∧ p = (fv a.1, a.2) := by
  obtain ⟨a, ha, e⟩ := List.mem_map.mp h
  exact ⟨a, ha, e.symm⟩
theorem mem_prF {FP : List (List Int × Nat)} {a : List Int × Nat} (h : a ∈ FP) : (fv a.1, a.2) ∈ prF FP := List.mem_map.mpr ⟨a, h, rfl⟩
theorem rinv_zero {rows : List (List Int)} {w : Nat} (hl : ∀ r, r ∈ rows → r.length = w) : RInv (fun v => ∃ r, r ∈ rows ∧ v = fv (simpL r)) w 0 (stL rows 0) 0 (fun _ _ => 0) [] where
  forms := rfl
  bas := .nil
  frm := ⟨⟨.nil, fun _ h => nomatch h⟩, .nil, fun _ h => (nomatch h), fun _ h => (nomatch h), fun _ h => nomatch h⟩
  plt := fun _ h => nomatch h
  left := fun r hr => by
    obtain ⟨a, ha, rfl⟩ := List.mem_map.mp hr
    exact ⟨simpL_norm a, fun j h => absurd h (Nat.not_lt_zero _), fv (simpL a), ⟨a, ha, rfl⟩, .gen ⟨0, by omega, ext_at.symm⟩, .gen (.inr rfl)⟩
  len1 := fun r hr => by
    obtain ⟨a, ha, rfl⟩ := List.mem_map.mp hr
    rw [simpL_len, hl a ha]
  len2 := fun _ h => nomatch h
  to := fun v ⟨r, hr, e⟩ => .gen (.inr ⟨simpL r, List.mem_map.mpr ⟨r, hr, rfl⟩, e⟩)
theorem inS_skip {n : Nat} {s : Nat → Vc} {s0 s1 v : Vc} (h : InS (n + 1) (ext n s s0) v) : InS (n + 2) (ext (n + 1) (ext n s s1) s0) v := by
  obtain ⟨i, hi, rfl⟩ := h
  by_cases z : i < n
  · exact ⟨i, by omega, by rw [ext_lt z, ext_lt (by omega), ext_lt z]⟩
  · exact ⟨n + 1, by omega, by rw [show i = n by omega, ext_at, ext_at]⟩
theorem rinv_step {S : Vc → Prop} {w q : Nat} {st : RSt} {n : Nat} {s : Nat → Vc} {FP : List (List Int × Nat)} (I : RInv S w q st n s FP) (hq : q < w) : ∃ n' s' FP', RInv S w (q + 1) (stepL st q) n' s' FP' := by
  unfold stepL
  cases hi : idxW st.1 q with
  | none =>
    refine ⟨n, s, FP, I.forms, I.bas, I.frm, fun p hp => by have := I.plt p hp; omega, fun r hr => ?_, I.len1, I.len2, I.to⟩
    have L := I.left r hr
    refine ⟨L.norm, fun j hj => ?_, L.ex⟩
    by_cases z : j = q
    · rw [z]; exact idxW_none hi r hr
    · exact L.low j (by omega)
  | some i =>
    obtain ⟨p, hp, pq, hil⟩ := idxW_some hi
    have gp : st.1.getD i [] = p := by rw [List.getD_eq_getElem?_getD, hp]; rfl
    dsimp only
    rw [gp]
    have pm : p ∈ st.1 := List.mem_of_getElem? hp
    have Lp := I.left p pm
    obtain ⟨sp, hsp, toP, ofP⟩ := Lp.ex
    have plen := I.len1 p pm
    have hpz : ∀ a, a ∈ prF FP → fv p a.2 = 0 := fun a ha => by
      obtain ⟨b, hb, rfl⟩ := prF_mem ha
      exact Lp.low _ (I.plt b hb)
    obtain ⟨FP', hFP⟩ : ∃ FP', FP' = FP.map (fun a => (clrL a.1 p q, a.2)) ++ [(p, q)] := ⟨_, rfl⟩
    have cl : ∀ a, a ∈ FP → ∃ t x y : Int, t ≠ 0 ∧ x ≠ 0 ∧ (∀ j, t * fv (clrL a.1 p q) j = x * fv a.1 j + y * fv p j) ∧ fv (clrL a.1 p q) q = 0 := fun a ha => clrL_mul (by rw [I.len2 a ha, plen]) pq
    have mem' : ∀ a, a ∈ prF FP' → (∃ b, b ∈ FP ∧ a = (fv (clrL b.1 p q), b.2)) ∨ a = (fv p, q) := fun a ha => by
      obtain ⟨b, hb, rfl⟩ := prF_mem ha
      rw [hFP] at hb
      rcases List.mem_append.mp hb with z | z
      · obtain ⟨d, hd, rfl⟩ := List.mem_map.mp z
        exact .inl ⟨d, hd, rfl⟩
      · rw [List.mem_singleton.mp z]; exact .inr rfl
    have old' : ∀ b, b ∈ FP → (fv (clrL b.1 p q), b.2) ∈ prF FP' := fun b hb => mem_prF (a := (clrL b.1 p q, b.2)) (by rw [hFP]; exact List.mem_append.mpr (.inl (List.mem_map.mpr ⟨b, hb, rfl⟩)))
    have new' : (fv p, q) ∈ prF FP' := mem_prF (a := (p, q)) (by rw [hFP]; exact List.mem_append.mpr (.inr List.mem_cons_self))
    -- a cleared form at a place where p is nought
    have atz : ∀ b, b ∈ FP → ∀ j, fv p j = 0 → (fv (clrL b.1 p q) j = 0 ↔ fv b.1 j = 0) := fun b hb j hj => by
      obtain ⟨t, x, y, ht, hx, e, _⟩ := cl b hb
      have := e j
      rw [hj, Int.mul_zero, Int.add_zero] at this
      constructor
      · intro z; rw [z, Int.mul_zero] at this; exact (Int.mul_eq_zero.mp this.symm).resolve_left hx
      · intro z; rw [z, Int.mul_zero] at this; exact (Int.mul_eq_zero.mp this).resolve_left ht
    have red' : Red (prF FP') := by
      refine ⟨?_, fun a ha => ?_⟩
      · rw [hFP]
        unfold prF
        rw [List.map_append, List.map_map, List.pairwise_append]
        refine ⟨?_, List.pairwise_singleton _ _, fun a ha c hc => ?_⟩
        · rw [List.pairwise_map]
          have off := I.frm.red.off
          unfold prF at off
          rw [List.pairwise_map] at off
          refine off.imp_of_mem (S := fun a b => fv (clrL a.1 p q) b.2 = 0 ∧ fv (clrL b.1 p q) a.2 = 0) fun {a b} ha hb hh => ⟨(atz a ha _ (hpz (fv b.1, b.2) (mem_prF hb))).mpr hh.1, (atz b hb _ (hpz (fv a.1, a.2) (mem_prF ha))).mpr hh.2⟩
        · rw [List.map_singleton] at hc
          rw [List.mem_singleton.mp hc]
          obtain ⟨b, hb, rfl⟩ := List.mem_map.mp ha
          obtain ⟨_, _, _, _, _, _, z⟩ := cl b hb
          exact ⟨z, hpz (fv b.1, b.2) (mem_prF hb)⟩
      · rcases mem' a ha with ⟨b, hb, rfl⟩ | rfl
        · exact fun z => I.frm.red.ne _ (mem_prF hb) ((atz b hb _ (hpz _ (mem_prF hb))).mp z)
        · exact pq
    have to' : ∀ v, InR (prF FP) (fv p) v → Sp (InF (prF FP')) v := fun v hv => by
      rcases hv with ⟨a, ha, rfl⟩ | rfl
      · obtain ⟨b, hb, rfl⟩ := prF_mem ha
        obtain ⟨t, x, y, ht, hx, e, _⟩ := cl b hb
        refine .div hx ((Sp.lin t (-y) (.gen ⟨_, old' b hb, rfl⟩) (.gen ⟨_, new', rfl⟩)).congr fun j => ?_)
        show t * fv (clrL b.1 p q) j + -y * fv p j = x * fv b.1 j
        rw [e j, Int.neg_mul]; omega
      · exact .gen ⟨_, new', rfl⟩
    have bas' : Bas S (n + 1) (ext n s sp) (prF FP') := I.bas.add hpz pq hsp toP ofP red' (by rw [hFP]; unfold prF; rw [List.length_map, List.length_append, List.length_map]; have := I.bas.len; unfold prF at this; rw [List.length_map] at this; show FP.length + 1 = n + 1; rw [this]) (fun a ha => by
      rcases mem' a ha with ⟨b, hb, rfl⟩ | rfl
      · obtain ⟨t, x, y, ht, hx, e, _⟩ := cl b hb
        refine .div ht ((Sp.lin x y (.gen (.inl ⟨_, mem_prF hb, rfl⟩)) (.gen (.inr rfl))).congr fun j => (e j).symm)
      · exact .gen (.inr rfl)) to'
    have low' : ∀ a, a ∈ prF FP' → ∀ j, j < a.2 → a.1 j = 0 := fun a ha j hj => by
      rcases mem' a ha with ⟨b, hb, rfl⟩ | rfl
      · have hbq := I.plt b hb
        have hj' : j < b.2 := hj
        exact (atz b hb j (Lp.low j (by omega))).mpr (I.frm.low _ (mem_prF hb) j hj)
      · exact Lp.low j hj
    have np : ∀ a, a ∈ prF FP' → Prim a.1 ∧ 0 < a.1 a.2 := fun a ha => by
      have ne := red'.ne a ha
      have nm : Norm a.1 := by
        rcases mem' a ha with ⟨b, hb, rfl⟩ | rfl
        · exact clrL_norm (.inr ⟨I.frm.prim _ (mem_prF hb), fun l hl hz => by
            have e : l = b.2 := by
              have h1 := leadL_eq hl hz
              have h2 := leadL_eq (I.frm.red.ne _ (mem_prF hb)) (I.frm.low _ (mem_prF hb))
              exact h1.symm.trans h2
            rw [e]; exact I.frm.pos _ (mem_prF hb)⟩)
        · exact Lp.norm
      rcases nm with z | ⟨z, k⟩
      · exact absurd (z _) ne
      · exact ⟨z, k _ ne (low' a ha)⟩
    have lft : ∀ r, r ∈ st.1.take i ++ st.1.drop (i + 1) → ∃ t x y : Int, t ≠ 0 ∧ x ≠ 0 ∧ (∀ j, t * fv (clrL r p q) j = x * fv r j + y * fv p j) ∧ fv (clrL r p q) q = 0 := fun r hr => clrL_mul (by rw [I.len1 r (mem_unsplit hr), plen]) pq
    refine ⟨n + 1, ext n s sp, FP', ?_, bas', ⟨red', ?_, low', fun a ha => (np a ha).2, fun a ha => (np a ha).1⟩, fun a ha => ?_, fun r' hr' => ?_, fun r' hr' => ?_, fun a ha => ?_, fun v hv => ?_⟩
    · show st.2.map (fun r => clrL r p q) ++ [p] = FP'.map (·.1)
      rw [hFP, I.forms, List.map_append, List.map_map, List.map_map]; rfl
    · rw [hFP]
      unfold prF
      rw [List.map_append, List.map_map, List.pairwise_append]
      refine ⟨?_, List.pairwise_singleton _ _, fun a ha c hc => ?_⟩
      · rw [List.pairwise_map]
        have asc := I.frm.asc
        unfold prF at asc
        rw [List.pairwise_map] at asc
        exact asc
      · rw [List.map_singleton] at hc
        rw [List.mem_singleton.mp hc]
        obtain ⟨b, hb, rfl⟩ := List.mem_map.mp ha
        exact I.plt b hb
    · rw [hFP] at ha
      rcases List.mem_append.mp ha with z | z
      · obtain ⟨b, hb, rfl⟩ := List.mem_map.mp z
        have := I.plt b hb
        show b.2 < q + 1
        omega
      · rw [List.mem_singleton.mp z]; show q < q + 1; omega
    · obtain ⟨r, hr, rfl⟩ := List.mem_map.mp hr'
      obtain ⟨t, x, y, ht, hx, e, eq⟩ := lft r hr
      have L := I.left r (mem_unsplit hr)
      obtain ⟨s0, hs0, toR, ofR⟩ := L.ex
      refine ⟨clrL_norm L.norm, fun j hj => ?_, s0, hs0, ?_, ?_⟩
      · by_cases z : j = q
        · rw [z]; exact eq
        · have := e j
          rw [L.low j (by omega), Lp.low j (by omega), Int.mul_zero, Int.mul_zero] at this
          exact (Int.mul_eq_zero.mp (show t * _ = 0 by rw [this]; rfl)).resolve_left ht
      · have h1 : Sp (InS (n + 2) (ext (n + 1) (ext n s sp) s0)) (fv r) := toR.mono fun v hv => inS_skip hv
        have h2 : Sp (InS (n + 2) (ext (n + 1) (ext n s sp) s0)) (fv p) := toP.mono fun v hv => hv.ext
        exact .div ht ((Sp.lin x y h1 h2).congr fun j => (e j).symm)
      · refine ofR.sub fun v hv => ?_
        have fp : Sp (InR (prF FP') (fv (clrL r p q))) (fv p) := .gen (.inl ⟨_, new', rfl⟩)
        rcases hv with hv | rfl
        · exact (to' v (.inl hv)).mono fun u hu => .inl hu
        · refine .div hx ((Sp.lin t (-y) (.gen (.inr rfl)) fp).congr fun j => ?_)
          show t * fv (clrL r p q) j + -y * fv p j = x * fv r j
          rw [e j, Int.neg_mul]; omega
    · obtain ⟨r, hr, rfl⟩ := List.mem_map.mp hr'
      have := I.len1 r (mem_unsplit hr)
      rw [clrL_len (by rw [this, plen]), this]
    · rw [hFP] at ha
      rcases List.mem_append.mp ha with z | z
      · obtain ⟨b, hb, rfl⟩ := List.mem_map.mp z
        have := I.len2 b hb
        show (clrL b.1 p q).length = w
        rw [clrL_len (by rw [this, plen]), this]
      · rw [List.mem_singleton.mp z]; exact plen
    · refine (I.to v hv).sub fun u hu => ?_
      rcases hu with hu | ⟨r, hr, rfl⟩
      · exact (to' u (.inl hu)).mono fun _ k => .inl k
      · rcases mem_split hp r hr with rfl | z
        · exact .gen (.inl ⟨_, new', rfl⟩)
        · obtain ⟨t, x, y, ht, hx, e, _⟩ := lft r z
          refine .div hx ((Sp.lin t (-y) (.gen (.inr ⟨_, List.mem_map.mpr ⟨r, z, rfl⟩, rfl⟩)) (.gen (.inl ⟨_, new', rfl⟩))).congr fun j => ?_)
          show t * fv (clrL r p q) j + -y * fv p j = x * fv r j
          rw [e j, Int.neg_mul]; omega
theorem rinv {rows : List (List Int)} {w : Nat} (hl : ∀ r, r ∈ rows → r.length = w) : ∀ q, q ≤ w → ∃ n s FP, RInv (fun v => ∃ r, r ∈ rows ∧ v = fv (simpL r)) w q (stL rows q) n s FP
  | 0, _ => ⟨_, _, _, rinv_zero hl⟩
  | q + 1, h => by
    obtain ⟨n, s, FP, I⟩ := rinv hl q (by omega)
    exact rinv_step I (by omega)
end LV
namespace LV
theorem asc_len {q : Nat} : ∀ (l : List Nat) (lo : Nat), l.Pairwise (· < ·) → (∀ x, x ∈ l → lo ≤ x ∧ x < q) → lo ≤ q → l.length ≤ q - lo
  | [], lo, _, _, _ => Nat.zero_le _
  | x :: l, lo, hp, hx, hlo => by
    rw [List.pairwise_cons] at hp
    obtain ⟨h1, h2⟩ := hx x List.mem_cons_self
    have := asc_len l (x + 1) hp.2 (fun y hy => ⟨hp.1 y hy, (hx y (List.mem_cons_of_mem _ hy)).2⟩) (by omega)
    rw [List.length_cons]
    omega
/-- the given rows -/
def RW (rows : List (List Int)) (v : Vc) : Prop := ∃ r, r ∈ rows ∧ v = fv r
def S0 (rows : List (List Int)) (v : Vc) : Prop := ∃ r, r ∈ rows ∧ v = fv (simpL r)
theorem s0_rw {rows : List (List Int)} {v : Vc} (h : S0 rows v) : Sp (RW rows) v := by
  obtain ⟨r, hr, rfl⟩ := h
  obtain ⟨t, ht, e⟩ := simpL_mul r
  exact .div ht ((Sp.gen ⟨r, hr, rfl⟩).congr e)
theorem rw_s0 {rows : List (List Int)} {v : Vc} (h : RW rows v) : Sp (S0 rows) v := by
  obtain ⟨r, hr, rfl⟩ := h
  obtain ⟨t, ht, e⟩ := simpL_mul r
  exact ((Sp.gen (G := S0 rows) ⟨r, hr, rfl⟩).smul t).congr fun j => (e j).symm
section
variable {S : Vc → Prop} {w q n C : Nat} {s : Nat → Vc} {FP : List (List Int × Nat)} {st : RSt} {rows : List (List Int)}
theorem RInv.few (I : RInv S w q st n s FP) : n ≤ q := by
  have asc := I.frm.asc
  unfold prF at asc
  rw [List.pairwise_map] at asc
  have h : (FP.map (·.2)).Pairwise (· < ·) := by rw [List.pairwise_map]; exact asc
  have := asc_len (q := q) (FP.map (·.2)) 0 h (fun x hx => by
    obtain ⟨p, hp, rfl⟩ := List.mem_map.mp hx
    exact ⟨Nat.zero_le _, I.plt p hp⟩) (Nat.zero_le _)
  have l := I.bas.len
  unfold prF at l
  rw [List.length_map] at l this
  omega
theorem RInv.bound (hb : HB w C S) (I : RInv S w q st n s FP) (hq : q ≤ w) : ∀ r, r ∈ st.1 ∨ r ∈ st.2 → r.length = w ∧ ∀ j, (fv r j).natAbs ≤ C := fun r hr => by
  have nq := I.few
  rcases hr with hr | hr
  · refine ⟨I.len1 r hr, ?_⟩
    have L := I.left r hr
    rcases L.norm with z | ⟨pr, _⟩
    · intro j; rw [z j]; exact Nat.zero_le _
    · obtain ⟨s0, hs0, toR, ofR⟩ := L.ex
      have : q < w := by
        obtain ⟨j, hj⟩ := pr.ne
        by_cases k : j < q
        · exact absurd (L.low j k) hj
        · by_cases k2 : j < w
          · omega
          · exact absurd (fv_out (by rw [I.len1 r hr]; omega)) hj
      exact I.bas.leftBound hb (by omega) (fun p hp => by
        obtain ⟨a, ha, rfl⟩ := prF_mem hp
        exact L.low _ (I.plt a ha)) pr hs0 toR ofR
  · rw [I.forms] at hr
    obtain ⟨p, hp, rfl⟩ := List.mem_map.mp hr
    exact ⟨I.len2 p hp, I.bas.formBound hb (by omega) (mem_prF hp) (I.frm.prim _ (mem_prF hp))⟩
end
/-- a reduced form of the given rows -/
structure FrmOf (rows : List (List Int)) (w : Nat) (FP : List (List Int × Nat)) : Prop where
  frm : Frm (prF FP)
  len : ∀ p, p ∈ FP → p.1.length = w
  lt : ∀ p, p ∈ FP → p.2 < w
  of : ∀ v, InF (prF FP) v → Sp (RW rows) v
  to : ∀ r, r ∈ rows → Sp (InF (prF FP)) (fv r)
theorem red_res {rows : List (List Int)} {w C : Nat} (hl : ∀ r, r ∈ rows → r.length = w) (hb : HB w C (S0 rows)) :
    ∃ FP, redL rows w = FP.map (·.1) ∧ FrmOf rows w FP ∧ (∃ n s, Bas (S0 rows) n s (prF FP) ∧ n ≤ w) ∧ ∀ p, p ∈ FP → ∀ j, (fv p.1 j).natAbs ≤ C := by
  obtain ⟨n, s, FP, I⟩ := rinv hl w (Nat.le_refl _)
  refine ⟨FP, I.forms, ⟨I.frm, I.len2, I.plt, fun v hv => ?_, fun r hr => ?_⟩, ⟨n, s, I.bas, I.few⟩, fun p hp => I.bas.formBound hb I.few (mem_prF hp) (I.frm.prim _ (mem_prF hp))⟩
  · obtain ⟨p, hp, rfl⟩ := hv
    exact (I.bas.ofF p hp).sub fun u ⟨i, hi, e⟩ => by rw [e]; exact s0_rw (I.bas.inS i hi)
  · refine (rw_s0 ⟨r, hr, rfl⟩ : Sp (S0 rows) (fv r)).sub fun v hv => (I.to v hv).sub fun u hu => ?_
    rcases hu with hu | ⟨a, ha, rfl⟩
    · exact .gen hu
    · have L := I.left a ha
      refine Sp.zero.congr fun j => ?_
      by_cases k : j < w
      · exact (L.low j k).symm
      · exact (fv_out (by rw [I.len1 a ha]; omega)).symm
theorem st_bound {rows : List (List Int)} {w C : Nat} (hl : ∀ r, r ∈ rows → r.length = w) (hb : HB w C (S0 rows)) : ∀ q, q ≤ w → ∀ r, r ∈ (stL rows q).1 ∨ r ∈ (stL rows q).2 → r.length = w ∧ ∀ j, (fv r j).natAbs ≤ C := fun q hq => by
  obtain ⟨n, s, FP, I⟩ := rinv hl q hq
  exact I.bound hb hq
theorem prF_inj {w : Nat} : ∀ {A B : List (List Int × Nat)}, (∀ p, p ∈ A → p.1.length = w) → (∀ p, p ∈ B → p.1.length = w) → prF A = prF B → A = B
  | [], [], _, _, _ => rfl
  | [], _ :: _, _, _, h => nomatch h
  | _ :: _, [], _, _, h => nomatch h
  | a :: A, b :: B, ha, hb, h => by
    have h' : (fv a.1, a.2) :: prF A = (fv b.1, b.2) :: prF B := h
    injection h' with h1 h2
    injection h1 with h3 h4
    rw [prF_inj (fun p hp => ha p (List.mem_cons_of_mem _ hp)) (fun p hp => hb p (List.mem_cons_of_mem _ hp)) h2]
    have e : a.1 = b.1 := fv_ext (by rw [ha a List.mem_cons_self, hb b List.mem_cons_self]) fun j => congrFun h3 j
    obtain ⟨a1, a2⟩ := a
    obtain ⟨b1, b2⟩ := b
    rw [show a1 = b1 from e, show a2 = b2 from h4]
/-- equal spans, equal forms -/
theorem FrmOf.uniq {rows rows' : List (List Int)} {w : Nat} {A B : List (List Int × Nat)} (hA : FrmOf rows w A) (hB : FrmOf rows' w B) (h1 : ∀ r, r ∈ rows → Sp (RW rows') (fv r)) (h2 : ∀ r, r ∈ rows' → Sp (RW rows) (fv r)) : A = B :=
  prF_inj hA.len hB.len (hA.frm.uniq hB.frm (fun v hv => (hA.of v hv).sub fun u ⟨r, hr, e⟩ => by
    rw [e]; exact (h1 r hr).sub fun x ⟨a, ha, z⟩ => by rw [z]; exact hB.to a ha) fun v hv => (hB.of v hv).sub fun u ⟨r, hr, e⟩ => by
    rw [e]; exact (h2 r hr).sub fun x ⟨a, ha, z⟩ => by rw [z]; exact hA.to a ha)
/-- the forms are their own forms -/
theorem FrmOf.self {rows : List (List Int)} {w : Nat} {A : List (List Int × Nat)} (hA : FrmOf rows w A) : FrmOf (A.map (·.1)) w A where
  frm := hA.frm
  len := hA.len
  lt := hA.lt
  of := fun v ⟨p, hp, e⟩ => by
    obtain ⟨a, ha, rfl⟩ := prF_mem hp
    exact .gen ⟨a.1, List.mem_map.mpr ⟨a, ha, rfl⟩, e⟩
  to := fun r hr => by
    obtain ⟨a, ha, rfl⟩ := List.mem_map.mp hr
    exact .gen ⟨_, mem_prF ha, rfl⟩
theorem s0_bound {rows : List (List Int)} {w B : Nat} (hB : 1 ≤ B) (h : ∀ r, r ∈ rows → ∀ j, (fv r j).natAbs ≤ B) : HB w (w * ((2 * w * B) ^ (w - 1) * B)) (S0 rows) :=
  hb_of hB fun v ⟨r, hr, e⟩ j => by rw [e]; exact Nat.le_trans (simpL_abs r j) (h r hr j)
end LV
set_option maxHeartbeats 1000000
set_option exponentiation.threshold 20000
namespace LV
open PySem PySem.Spec L2
theorem gcd_fmod (a b : Int) : Int.gcd b (a.fmod b) = Int.gcd a b := by
  have e : a.fmod b = a - b * a.fdiv b := by have := Int.mul_fdiv_add_fmod a b; omega
  rw [e, Int.gcd_sub_mul_left_right, Int.gcd_comm]
theorem fmod_abs {a b : Int} (h : b ≠ 0) : (a.fmod b).natAbs < b.natAbs := by
  rcases Int.lt_or_lt_of_ne h with k | k
  · have e := Int.neg_fmod_neg a b
    have h1 := Int.fmod_nonneg_of_pos (-a) (b := -b) (by omega)
    have h2 := Int.fmod_lt_of_pos (-a) (b := -b) (by omega)
    omega
  · have h1 := Int.fmod_nonneg_of_pos a k
    have h2 := Int.fmod_lt_of_pos a k
    omega
def S_common_divisor : FSpec := fun args Q _ => ∃ a b : Int, args = [.fz (.int a), .fz (.int b)] ∧ Q (.fz (.int (Int.gcd a b : Nat))) args
theorem mS_common_divisor : MonoF S_common_divisor := ⟨fun h _ ⟨a, b, c, q⟩ => ⟨a, b, c, h _ _ q⟩⟩
theorem run_par {wl : AW} {i j : Nat} {K : Ks} {env e1 : En} {a b : D} (h : EvL env wl [a, b] e1) (q : K.nx ((e1.set i (some (.fz a))).set j (some (.fz b)))) : wPar i j wl K env := h.go ⟨a, b, e1, frzL_fz' [a, b], q⟩
theorem ev_mod {env e1 e2 : En} {wa wb : EW} {i j : Int} (ha : Ev env wa (.int i) e1) (hb : Ev e1 wb (.int j) e2) (h : j ≠ 0) : EvR env (wOp2 gMod wa wb) (.fz (.int (i.fmod j))) e2 := ev_op ha hb fun Q' q => by
  rw [gMod_ii]
  exact ⟨h, q⟩
theorem ev_neb' {env e1 e2 : En} {wa wb : EW} {i j : Int} (ha : Ev env wa (.int i) e1) (hb : Ev e1 wb (.int j) e2) : EvR env (wOp2 gNe wa wb) (.fz (.bl (decide (i ≠ j)))) e2 := ev_op ha hb fun Q' q => ⟨rfl, rfl, by
  rw [eqv_ii, show (!(i == j)) = decide (i ≠ j) by rw [Bool.eq_iff_iff]; simp]; exact q⟩
theorem ev_abs {env e1 : En} {w : EW} {i : Int} (h : Ev env w (.int i) e1) : EvR env (wBlt gAbs (wCons w wNil)) (.fz (.int (i.natAbs : Nat))) e1 := ev_blt (evl_cons h evl_nil) fun Q' q => by
  rw [gAbs_i, show (if i < 0 then -i else i) = (i.natAbs : Int) by split <;> omega]; exact q
theorem kp_common_divisor : Keeps S_common_divisor [] 2 2 w_common_divisor where
  fit := fun args Q E ⟨_, _, a, _⟩ => a ▸ fit2
  run := fun args Q E ⟨a, b, e, q⟩ => by
    subst e
    unfold w_common_divisor
    change wSeq _ _ _ [some (.fz (.int a)), some (.fz (.int b))]
    refine seq_k fun K1 hn1 _ _ _ _ => while_k (fun m e => ∃ x y : Int, e = [some (.fz (.int x)), some (.fz (.int y))] ∧ Int.gcd x y = Int.gcd a b ∧ m = y.natAbs) b.natAbs ⟨a, b, rfl, rfl, rfl⟩ fun m e ⟨x, y, he, hg, hm⟩ => ?_
    subst he hm
    refine (evt_B (ev_neb' (env := [some (.fz (.int x)), some (.fz (.int y))]) (vx 1 rfl) cx)).go ?_
    by_cases hy : y = 0
    · rw [if_neg (by rw [decide_eq_false (by simpa using hy)]; exact Bool.false_ne_true)]
      subst hy
      have ea : EvR [some (.fz (.int x)), some (.fz (.int 0))] (wBlt gAbs (wCons (wVar 0) wNil)) (.fz (.int (Int.gcd a b : Nat))) [some (.fz (.int x)), some (.fz (.int 0))] := by
        rw [← hg, Int.gcd_zero_right]
        exact ev_abs (vx 0 rfl)
      exact hn1 _ (run_ret ea ⟨_, rfl, q⟩)
    · rw [if_pos (by rw [decide_eq_true (by simpa using hy)])]
      refine run_par (evl_cons (vx 1 rfl) (evl_cons (ev_mod (vx 0 rfl) (vx 1 rfl) hy).fz evl_nil)) ?_
      exact ⟨(x.fmod y).natAbs, fmod_abs hy, y, x.fmod y, rfl, by rw [gcd_fmod]; exact hg, rfl⟩
/-- a row as a tuple or a list -/
def SqD (X : D) (r : List Int) : Prop := X = .tup (r.map D.int) ∨ X = .lst (r.map D.int)
theorem sqT (r : List Int) : SqD (rowD r) r := .inl rfl
theorem sqL (r : List Int) : SqD (.lst (r.map D.int)) r := .inr rfl
section
variable {X Y : D} {r p : List Int} {env e1 e2 : En} {w wa wb : EW} {wl : AW} {i : Nat}
theorem SqD.items (h : SqD X r) : itemsD X = some (r.map D.int) := by rcases h with rfl | rfl <;> rfl
theorem ev_lenS (hX : SqD X r) (h : Ev env w X e1) : EvR env (wBlt gLen (wCons w wNil)) (.fz (.int (r.length : Int))) e1 := by
  rcases hX with rfl | rfl
  · have := ev_lent h; rwa [List.length_map] at this
  · have := ev_lenl h; rwa [List.length_map] at this
theorem ev_ixS {k : Nat} (hX : SqD X r) (ha : Ev env wa X e1) (hb : Ev e1 wb (.int (k : Int)) e2) (hk : k < r.length) : EvR env (wOp2 gIx wa wb) (.fz (.int (fv r k))) e2 := by
  have e : (r.map D.int)[k]? = some (.int (fv r k)) := by
    rw [List.getElem?_map, List.getElem?_eq_getElem hk]
    unfold fv
    rw [List.getD_eq_getElem?_getD, List.getElem?_eq_getElem hk]; rfl
  rcases hX with rfl | rfl
  · exact ev_op ha hb fun Q' q => ix_tup e q
  · exact ev_op ha hb fun Q' q => ix_l e q
end
theorem run_enum {K : Ks} {env e1 : En} {tg : Tg} {w : EW} {body : SW} {X : D} {ds : List D} (h : Ev env w X e1) (hX : X = .tup ds ∨ X = .lst ds) (q : loopW tg body yesK K (enumD 0 ds) e1) : wFor tg (wEnumA (wCons w wNil)) body K env := by
  unfold wFor wEnumA
  refine (evl_cons h evl_nil).go ⟨ds, e1, ?_, q⟩
  rcases hX with rfl | rfl
  · exact .inl (frzL_fz' [.tup ds])
  · exact .inr (frzL_fz' [.lst ds])
def S_lead_position : FSpec := fun args Q _ => ∃ (X : D) (r : List Int), args = [.fz X] ∧ SqD X r ∧ Q (.fz (.int (leadL r : Nat))) args
theorem mS_lead_position : MonoF S_lead_position := ⟨fun h _ ⟨a, b, c, d, q⟩ => ⟨a, b, c, d, h _ _ q⟩⟩
theorem lp_lead {X : D} {K : Ks} : ∀ (l : List Int) (k : Nat) (v1 v2 : Option Val), (leadL l < l.length → ∀ v1 v2, K.rt (.fz (.int ((k + leadL l : Nat) : Int))) [some (.fz X), v1, v2]) → (leadL l = l.length → ∀ v1 v2, K.nx [some (.fz X), v1, v2]) →
    loopW (.t [1, 2]) (wIf (wB (wOp2 gNe (wVar 2) (wC (.int 0)))) (wRet [] (wVar 1)) wSkip) yesK K (enumD (k : Int) (l.map D.int)) [some (.fz X), v1, v2]
  | [], k, v1, v2, _, h => ⟨True.intro, h rfl _ _⟩
  | x :: l, k, v1, v2, h1, h2 => by
    refine ⟨True.intro, _, rfl, ?_⟩
    show wIf _ _ _ _ [some (.fz X), some (.fz (.int (k : Int))), some (.fz (.int x))]
    unfold leadL at h1 h2
    by_cases hx : x ≠ 0
    · refine run_if_t (evt_B (k := true) (by have := ev_neb' (env := [some (.fz X), some (.fz (.int (k : Int))), some (.fz (.int x))]) (wa := wVar 2) (wb := wC (.int 0)) (i := x) (j := 0) (vx 2 rfl) cx; rw [decide_eq_true hx] at this; exact this)) (run_ret (d := .int (k : Int)) (ev_var rfl) ?_)
      rw [if_pos hx] at h1
      exact h1 (by rw [List.length_cons]; omega) _ _
    · refine run_if_f (evt_B (k := false) (by have := ev_neb' (env := [some (.fz X), some (.fz (.int (k : Int))), some (.fz (.int x))]) (wa := wVar 2) (wb := wC (.int 0)) (i := x) (j := 0) (vx 2 rfl) cx; rw [decide_eq_false hx] at this; exact this)) ?_
      rw [if_neg hx] at h1 h2
      show loopW _ _ yesK K (enumD ((k : Int) + 1) (l.map D.int)) _
      rw [show (k : Int) + 1 = ((k + 1 : Nat) : Int) by omega]
      refine lp_lead l (k + 1) _ _ (fun h v1 v2 => ?_) fun h => h2 (by rw [List.length_cons]; omega)
      have := h1 (by rw [List.length_cons]; omega) v1 v2
      rw [show k + (leadL l + 1) = k + 1 + leadL l by omega] at this
      exact this
theorem kp_lead_position : Keeps S_lead_position [] 1 3 w_lead_position where
  fit := fun args Q E ⟨_, _, a, _⟩ => a ▸ fit1
  run := fun args Q E ⟨X, r, e, hX, q⟩ => by
    subst e
    unfold w_lead_position
    change wSeq _ _ _ [some (.fz X), none, none]
    refine seq_k fun K1 hn1 hr1 _ _ _ => run_enum (vx 0 rfl) hX ?_
    refine lp_lead r 0 none none (fun h v1 v2 => ?_) fun h v1 v2 => hn1 _ ?_
    · rw [hr1, Nat.zero_add]
      exact ⟨_, rfl, q⟩
    · rw [h] at q
      exact run_ret (ev_lenS hX (vx 0 rfl)) ⟨_, rfl, q⟩
end LV
namespace LV
open PySem PySem.Spec L2
theorem bits_of {i : Int} (h : i.natAbs < 2 ^ 8999) : Builtin.Int.intBits i ≤ 9000 := PyProof.Rows.intBits_le (Nat.lt_of_lt_of_le h (by
  exact Nat.pow_le_pow_right (by decide) (by decide)))
theorem cm_ok {i j : Int} (h : i.natAbs < 2 ^ 8999) (k : j.natAbs < 2 ^ 8999) : CMulX i j := by
  have := bits_of h
  have := bits_of k
  unfold CMulX
  omega
theorem cd_ok {i j : Int} (h : j ≠ 0) (k : j.natAbs < 2 ^ 8999) : CDvA i j :=
  ⟨h, PyProof.noPylong_of_log2 (PySem.Flt.log2_lt_of (by decide) (Nat.lt_of_lt_of_le k (Nat.pow_le_pow_right (by decide) (by decide))))⟩
section
variable {env e1 e2 : En} {w wa wb : EW} {i j : Int}
theorem ev_divX (ha : Ev env wa (.int i) e1) (hb : Ev e1 wb (.int j) e2) (h : CDvA i j) : EvR env (wOp2 gDiv wa wb) (.fz (.int (i.fdiv j))) e2 := ev_op ha hb fun Q' q => by
  rw [gDiv_ii]; exact ⟨h, q⟩
theorem ev_mulX (ha : Ev env wa (.int i) e1) (hb : Ev e1 wb (.int j) e2) (h : CMulX i j) : EvR env (wOp2 gMulT wa wb) (.fz (.int (i * j))) e2 := ev_op ha hb fun Q' q => .inr (by
  rw [gMul_ii]; exact ⟨h, q⟩)
theorem ev_negX (h : EvR env w (.fz (.int i)) e1) : EvR env (wNeg w) (.fz (.int (-i))) e1 := ⟨fun {Q E} q => by
  unfold wNeg
  exact h.go ⟨i, rfl, q⟩⟩
end
theorem gfold_le {r : List Int} {x : Int} (hx : x ∈ r) (h0 : x ≠ 0) : gfold 0 r ≤ x.natAbs := by
  have := (gfold_dvd r 0).2 x hx
  exact Nat.le_of_dvd (by omega) (Int.natAbs_dvd_natAbs.mpr this)
theorem gfold_lt {r : List Int} {B : Nat} (h : ∀ x, x ∈ r → x.natAbs < B) (hB : 0 < B) : gfold 0 r < B := by
  by_cases z : gfold 0 r = 0
  · omega
  · have : ∃ x, x ∈ r ∧ x ≠ 0 := by
      by_cases e : ∃ x, x ∈ r ∧ x ≠ 0
      · exact e
      · exfalso
        have : (0 : Int) ∣ (gfold 0 r : Int) := gfold_max r 0 0 (Int.dvd_refl _) fun x hx => by
          by_cases k : x = 0
          · rw [k]; exact Int.dvd_refl _
          · exact absurd ⟨x, hx, k⟩ e
        exact z (by have := Int.zero_dvd.mp this; omega)
    obtain ⟨x, hx, h0⟩ := this
    exact Nat.lt_of_le_of_lt (gfold_le hx h0) (h x hx)
def S_simplified : FSpec := fun args Q _ => ∃ (X : D) (r : List Int), args = [.fz X] ∧ SqD X r ∧ r.length ≤ 900 ∧ (∀ x, x ∈ r → x.natAbs < 2 ^ 8999) ∧ Q (.fz (rowD (simpL r))) args
theorem mS_simplified : MonoF S_simplified := ⟨fun h _ ⟨a, b, c, d, e, f, q⟩ => ⟨a, b, c, d, e, f, h _ _ q⟩⟩
theorem ev_gcd {env e1 e2 : En} {wa wb : EW} {a b : Int} (ha : Ev env wa (.int a) e1) (hb : Ev e1 wb (.int b) e2) : EvR env (wCall S_common_divisor (wCons wa (wCons wb wNil))) (.fz (.int (Int.gcd a b : Nat))) e2 :=
  ev_call (S := S_common_divisor) (ds := [.int a, .int b]) (evl_cons ha (evl_cons hb evl_nil)) (fun q => ⟨a, b, rfl, q⟩) fun i z => by cases z
theorem lp_gcd {X : D} {K : Ks} : ∀ (l : List Int) (g : Nat) (v2 : Option Val), (∀ v2, K.nx [some (.fz X), some (.fz (.int (gfold g l : Nat))), v2]) →
    loopW (.n 2) (wSet 1 (wCall S_common_divisor (wCons (wFrz (wVar 1)) (wCons (wFrz (wVar 2)) wNil)))) yesK K (l.map D.int) [some (.fz X), some (.fz (.int (g : Int))), v2]
  | [], g, v2, h => ⟨True.intro, h _⟩
  | x :: l, g, v2, h => by
    refine ⟨True.intro, _, rfl, ?_⟩
    show wSet _ _ _ [some (.fz X), some (.fz (.int (g : Int))), some (.fz (.int x))]
    refine run_set (ev_gcd (fx 1 rfl) (fx 2 rfl)) ?_
    exact lp_gcd l (Int.gcd g x) _ h
theorem run_forI {K : Ks} {env e1 : En} {tg : Tg} {w : EW} {pn : List Nat} {body : SW} {X : D} {r : List Int} (h : EvR env w (.fz X) e1) (hX : SqD X r) (q : loopW tg body yesK K (r.map D.int) e1) : wFor tg (wIt pn w) body K env := run_forD h hX.items q
theorem ev_tupleS {env e1 : En} {w : EW} {X : D} {r : List Int} (h : Ev env w X e1) (hX : SqD X r) : EvR env (wBlt gTuple (wCons w wNil)) (.fz (rowD r)) e1 := by
  rcases hX with rfl | rfl
  · exact ev_blt (evl_cons h evl_nil) fun Q' q => q
  · exact ev_blt (evl_cons h evl_nil) fun Q' q => q
theorem kp_simplified : Keeps S_simplified [] 1 3 (w_simplified S_common_divisor S_lead_position) where
  fit := fun args Q E ⟨_, _, a, _⟩ => a ▸ fit1
  run := fun args Q E ⟨X, r, e, hX, hl, hb, q⟩ => by
    subst e
    unfold w_simplified
    have sz := sizeLine_eq
    change wSeq _ _ _ [some (.fz X), none, none]
    refine seq_k fun K1 hn1 _ _ _ _ => run_set (d := .int 0) ev_c (hn1 _ ?_)
    change wSeq _ _ _ [some (.fz X), some (.fz (.int ((0 : Nat) : Int))), none]
    refine seq_k fun K2 hn2 _ _ _ _ => run_forI (ev_var rfl) hX (lp_gcd r 0 none fun v2 => hn2 _ ?_)
    by_cases g0 : gfold 0 r = 0
    · refine sk_t (evt_B (k := true) (ev_eqi' (vx 1 rfl) cx (decide_eq_true (by rw [g0]; rfl)))) fun K' hr _ => run_ret (ev_tupleS (vx 0 rfl) hX) ?_
      rw [hr]
      have e : simpL r = r := by unfold simpL; rw [if_pos g0]
      rw [e] at q
      exact ⟨_, rfl, q⟩
    · refine sk_f (evt_B (k := false) (ev_eqi' (vx 1 rfl) cx (decide_eq_false (by omega)))) ?_
      have gb : gfold 0 r < 2 ^ 8999 := gfold_lt hb (Nat.pow_pos (by decide))
      -- the place of the lead
      have ll : leadL r < r.length := by
        by_cases z : leadL r < r.length
        · exact z
        · exfalso
          have e : leadL r = r.length := by have := leadL_le r; omega
          have : (0 : Int) ∣ (gfold 0 r : Int) := gfold_max r 0 0 (Int.dvd_refl _) fun x hx => by
            obtain ⟨j, hj, rfl⟩ := fv_mem hx
            rw [leadL_low r j (by omega)]
            exact Int.dvd_refl _
          exact g0 (by have := Int.zero_dvd.mp this; omega)
      have ld : ∀ v2, EvR [some (.fz X), some (.fz (.int (gfold 0 r : Nat))), v2] (wOp2 gIx (wVar 0) (wCall S_lead_position (wCons (wFrz (wVar 0)) wNil))) (.fz (.int (fv r (leadL r)))) [some (.fz X), some (.fz (.int (gfold 0 r : Nat))), v2] := fun v2 =>
        ev_ixS hX (vx 0 rfl) (ev_call (S := S_lead_position) (ds := [X]) (evl_cons (fx 0 rfl) evl_nil) (fun q => ⟨X, r, rfl, hX, q⟩) fun i z => by cases z).fz ll
      have fin : ∀ (K : Ks) (v2 : Option Val), K.rt = (KsFn [] [.fz X] Q E).rt → wRet [] (wBlt gTuple (wCons (wLc (.n 2) (wIt [] (wVar 0)) uYes (wOp2 gDiv (wVar 2) (wVar 1)) [2]) wNil)) K [some (.fz X), some (.fz (.int (sdivL r))), v2] := fun K v2 hK => by
        have d0 : sdivL r ≠ 0 := by unfold sdivL; split <;> omega
        have db : (sdivL r).natAbs < 2 ^ 8999 := by
          have : (sdivL r).natAbs = gfold 0 r := by unfold sdivL; split <;> omega
          rw [this]; exact gb
        have lc := lc_mapL (env := [some (.fz X), some (.fz (.int (sdivL r))), v2]) (e1 := [some (.fz X), some (.fz (.int (sdivL r))), v2]) (i := 2) (pn := []) (w := wOp2 gDiv (wVar 2) (wVar 1)) (g := D.int) (f := fun x : Int => D.int (x.fdiv (sdivL r))) (xs := r) (d := X) (wa := wVar 0) (ev_var rfl) hX.items (fun x hx => (ev_divX (vx 2 rfl) (vx 1 rfl) (cd_ok d0 db)).fz) (by omega)
        have t := ev_blt (g := gTuple) (r := .fz (rowD (simpL r))) (evl_cons lc.ow evl_nil) fun Q' q => by
          have e : D.tup (r.map fun x : Int => D.int (x.fdiv (sdivL r))) = rowD (simpL r) := by
            unfold rowD simpL
            rw [if_neg g0, List.map_map]; rfl
          have q2 : Q' (.fz (D.tup (r.map fun x : Int => D.int (x.fdiv (sdivL r))))) := by rw [e]; exact q
          exact q2
        refine run_ret t ?_
        rw [hK]
        exact ⟨_, rfl, q⟩
      by_cases neg : fv r (leadL r) < 0
      · refine seq_k fun K3 hn3 _ _ _ _ => run_if_t (evt_B (k := true) (ev_lti (ld _).fz cx (decide_eq_true neg))) (run_set (ev_negX (ev_var rfl)) (hn3 _ ?_))
        have := fin (KsFn [] [.fz X] Q E)
        have e : sdivL r = -(gfold 0 r : Int) := by unfold sdivL; rw [if_pos neg]
        rw [e] at this
        exact this _ rfl
      · refine sk_f (evt_B (k := false) (ev_lti (ld _).fz cx (decide_eq_false neg))) ?_
        have := fin (KsFn [] [.fz X] Q E)
        have e : sdivL r = (gfold 0 r : Int) := by unfold sdivL; rw [if_neg neg]
        rw [e] at this
        exact this _ rfl
end LV
namespace LV
open PySem PySem.Spec L2
def S_cleared : FSpec := fun args Q _ => ∃ (r p : List Int) (k : Nat), args = [.fz (rowD r), .fz (rowD p), .fz (.int (k : Int))] ∧ r.length = p.length ∧ k < r.length ∧ r.length ≤ 900 ∧ (∀ j, (fv r j).natAbs < 2 ^ 4490) ∧ (∀ j, (fv p j).natAbs < 2 ^ 4490) ∧ Q (.fz (rowD (clrL r p k))) args
theorem mS_cleared : MonoF S_cleared := ⟨fun h _ ⟨a, b, c, d, e, f, g, i, j, q⟩ => ⟨a, b, c, d, e, f, g, i, j, h _ _ q⟩⟩
theorem two_mul_lt {a b c d : Int} {n : Nat} (ha : a.natAbs < 2 ^ n) (hb : b.natAbs < 2 ^ n) (hc : c.natAbs < 2 ^ n) (hd : d.natAbs < 2 ^ n) : (a * b - c * d).natAbs < 2 ^ (2 * n + 1) := by
  have h1 : (a * b).natAbs < 2 ^ n * 2 ^ n := by rw [Int.natAbs_mul]; exact Nat.mul_lt_mul'' ha hb
  have h2 : (c * d).natAbs < 2 ^ n * 2 ^ n := by rw [Int.natAbs_mul]; exact Nat.mul_lt_mul'' hc hd
  have e : 2 ^ (2 * n + 1) = 2 * (2 ^ n * 2 ^ n) := by rw [Nat.pow_succ, Nat.mul_comm (2 ^ (2 * n)) 2, ← Nat.pow_add, ← Nat.two_mul]
  omega
theorem zip_map : ∀ (r p : List Int), zipD (r.map D.int) (p.map D.int) = (r.zip p).map fun x => D.tup [.int x.1, .int x.2]
  | [], [] => rfl
  | [], _ :: _ => rfl
  | _ :: _, [] => rfl
  | x :: r, y :: p => by
    show D.tup [.int x, .int y] :: zipD (r.map D.int) (p.map D.int) = _
    rw [zip_map r p]; rfl
theorem zw_map (f : Int → Int → Int) : ∀ (r p : List Int), (List.zipWith f r p).map D.int = (r.zip p).map fun x => D.int (f x.1 x.2)
  | [], [] => rfl
  | [], _ :: _ => rfl
  | _ :: _, [] => rfl
  | x :: r, y :: p => by
    rw [List.zipWith_cons_cons, List.map_cons, zw_map f r p]; rfl
theorem kp_cleared : Keeps S_cleared [] 3 7 (w_cleared S_simplified) where
  fit := fun args Q E ⟨_, _, _, a, _⟩ => a ▸ fit3
  run := fun args Q E ⟨r, p, k, e, hl, hk, h9, hr, hp, q⟩ => by
    subst e
    unfold w_cleared
    have sz := sizeLine_eq
    change wSeq _ _ _ [some (.fz (rowD r)), some (.fz (rowD p)), some (.fz (.int (k : Int))), none, none, none, none]
    have up : ∀ {i : Int}, i.natAbs < 2 ^ 4490 → i.natAbs < 2 ^ 8999 := fun h => Nat.lt_of_lt_of_le h (Nat.pow_le_pow_right (by decide) (by decide))
    have ir : ∀ {v3 v4 v5 v6}, EvR [some (.fz (rowD r)), some (.fz (rowD p)), some (.fz (.int (k : Int))), v3, v4, v5, v6] (wOp2 gIx (wVar 0) (wVar 2)) (.fz (.int (fv r k))) [some (.fz (rowD r)), some (.fz (rowD p)), some (.fz (.int (k : Int))), v3, v4, v5, v6] := ev_ixS (sqT r) (vx 0 rfl) (vx 2 rfl) hk
    have ip : ∀ {v3 v4 v5 v6}, EvR [some (.fz (rowD r)), some (.fz (rowD p)), some (.fz (.int (k : Int))), v3, v4, v5, v6] (wOp2 gIx (wVar 1) (wVar 2)) (.fz (.int (fv p k))) [some (.fz (rowD r)), some (.fz (rowD p)), some (.fz (.int (k : Int))), v3, v4, v5, v6] := ev_ixS (sqT p) (vx 1 rfl) (vx 2 rfl) (by omega)
    by_cases z : fv r k = 0
    · refine sk_t (evt_B (k := true) (ev_eqi' ir.fz cx (decide_eq_true z))) fun K' hr' _ => run_ret (ev_var rfl) ?_
      rw [hr']
      have e : clrL r p k = r := by unfold clrL; rw [if_pos z]
      rw [e] at q
      exact ⟨_, rfl, q⟩
    · refine sk_f (evt_B (k := false) (ev_eqi' ir.fz cx (decide_eq_false z))) ?_
      refine seq_k fun K1 hn1 _ _ _ _ => run_set ip (hn1 _ ?_)
      refine seq_k fun K2 hn2 _ _ _ _ => run_set ir (hn2 _ ?_)
      change wRet _ _ _ [some (.fz (rowD r)), some (.fz (rowD p)), some (.fz (.int (k : Int))), some (.fz (.int (fv p k))), some (.fz (.int (fv r k))), none, none]
      have lc : EvR [some (.fz (rowD r)), some (.fz (rowD p)), some (.fz (.int (k : Int))), some (.fz (.int (fv p k))), some (.fz (.int (fv r k))), none, none] (wLc (.t [5, 6]) (wZip (wCons (wVar 0) (wCons (wVar 1) wNil))) uYes (wOp2 gSub (wOp2 gMulT (wVar 3) (wVar 5)) (wOp2 gMulT (wVar 4) (wVar 6))) [5, 6]) (.ow (.lst ((List.zipWith (fun x y => fv p k * x - fv r k * y) r p).map D.int))) [some (.fz (rowD r)), some (.fz (rowD p)), some (.fz (.int (k : Int))), some (.fz (.int (fv p k))), some (.fz (.int (fv r k))), none, none] := ⟨fun {Q' E'} q' => by
        unfold wLc wZip
        refine (evl_cons (vx 0 rfl) (evl_cons (vx 1 rfl) evl_nil)).go ⟨[rowD r, rowD p], _, frzL_fz' [rowD r, rowD p], .inl ⟨r.map D.int, p.map D.int, rfl, ?_⟩⟩
        rw [zip_map]
        refine cw_mapL (g := fun x : Int × Int => D.tup [.int x.1, .int x.2]) (f := fun x : Int × Int => D.int (fv p k * x.1 - fv r k * x.2)) True.intro (r.zip p) [] (fun x hx => ⟨_, rfl, rfl, ?_⟩) (by rw [List.length_nil, List.length_zip]; show 0 + _ < _; omega) ?_
        · have h1 : x.1.natAbs < 2 ^ 4490 := by
            obtain ⟨j, _, e⟩ := fv_mem (List.of_mem_zip hx).1
            rw [← e]; exact hr j
          have h2 : x.2.natAbs < 2 ^ 4490 := by
            obtain ⟨j, _, e⟩ := fv_mem (List.of_mem_zip hx).2
            rw [← e]; exact hp j
          exact (ev_subi (ev_mulX (vx 3 rfl) (vx 5 rfl) (cm_ok (up (hp k)) (up h1))).fz (ev_mulX (vx 4 rfl) (vx 6 rfl) (cm_ok (up (hr k)) (up h2))).fz).fz
        · have e : (r.zip p).map (fun x : Int × Int => D.int (fv p k * x.1 - fv r k * x.2)) = (List.zipWith (fun x y => fv p k * x - fv r k * y) r p).map D.int := by
            exact (zw_map (fun x y => fv p k * x - fv r k * y) r p).symm
          rw [List.nil_append, e]
          exact q'⟩
      have bz : ∀ x, x ∈ List.zipWith (fun x y => fv p k * x - fv r k * y) r p → x.natAbs < 2 ^ 8999 := fun x hx => by
        obtain ⟨j, _, e⟩ := fv_mem hx
        rw [← e, fv_zip (by rw [Int.mul_zero, Int.mul_zero]; rfl) r p j hl]
        exact Nat.lt_of_lt_of_le (two_mul_lt (hp k) (hr j) (hr k) (hp j)) (Nat.pow_le_pow_right (by decide) (by decide))
      refine run_ret (ev_call (S := S_simplified) (ds := [.lst ((List.zipWith (fun x y => fv p k * x - fv r k * y) r p).map D.int)]) (r := .fz (rowD (clrL r p k))) (evl_cons (ev_frz lc.ow).fz evl_nil) (fun q' => ⟨_, _, rfl, sqL _, by rw [List.length_zipWith]; omega, bz, ?_⟩) fun i z => by cases z) ⟨_, rfl, q⟩
      have e : clrL r p k = simpL (List.zipWith (fun x y => fv p k * x - fv r k * y) r p) := by unfold clrL; rw [if_neg z]
      rw [← e]
      exact q'
def idxD : Option Nat → D
  | none => .non
  | some i => .int (i : Int)
def S_index_with : FSpec := fun args Q _ => ∃ (rows : List (List Int)) (k : Nat), args = [.fz (.lst (rows.map rowD)), .fz (.int (k : Int))] ∧ (∀ r, r ∈ rows → k < r.length) ∧ Q (.fz (idxD (idxW rows k))) args
theorem mS_index_with : MonoF S_index_with := ⟨fun h _ ⟨a, b, c, d, q⟩ => ⟨a, b, c, d, h _ _ q⟩⟩
theorem lp_index {X : D} {k : Nat} {K : Ks} : ∀ (l : List (List Int)) (m : Nat) (v2 v3 : Option Val), (∀ r, r ∈ l → k < r.length) → (∀ i v2 v3, idxW l k = some i → K.rt (.fz (.int ((m + i : Nat) : Int))) [some (.fz X), some (.fz (.int (k : Int))), v2, v3]) → (∀ v2 v3, idxW l k = none → K.nx [some (.fz X), some (.fz (.int (k : Int))), v2, v3]) →
    loopW (.t [2, 3]) (wIf (wB (wOp2 gNe (wOp2 gIx (wVar 3) (wVar 1)) (wC (.int 0)))) (wRet [] (wVar 2)) wSkip) yesK K (enumD (m : Int) (l.map rowD)) [some (.fz X), some (.fz (.int (k : Int))), v2, v3]
  | [], m, v2, v3, _, _, h => ⟨True.intro, h _ _ rfl⟩
  | r :: l, m, v2, v3, hl, h1, h2 => by
    refine ⟨True.intro, _, rfl, ?_⟩
    show wIf _ _ _ _ [some (.fz X), some (.fz (.int (k : Int))), some (.fz (.int (m : Int))), some (.fz (rowD r))]
    have t := evt_B (ev_neb' (env := [some (.fz X), some (.fz (.int (k : Int))), some (.fz (.int (m : Int))), some (.fz (rowD r))]) (ev_ixS (sqT r) (vx 3 rfl) (vx 1 rfl) (hl r List.mem_cons_self)).fz (cx (d := .int 0)))
    by_cases z : fv r k ≠ 0
    · rw [decide_eq_true z] at t
      refine run_if_t t (run_ret (d := .int (m : Int)) (ev_var rfl) ?_)
      exact h1 0 _ _ (by unfold idxW; rw [if_pos z])
    · rw [decide_eq_false z] at t
      refine run_if_f t ?_
      show loopW _ _ yesK K (enumD ((m : Int) + 1) (l.map rowD)) _
      rw [show (m : Int) + 1 = ((m + 1 : Nat) : Int) by omega]
      refine lp_index l (m + 1) _ _ (fun a ha => hl a (List.mem_cons_of_mem _ ha)) (fun i v2 v3 hi => ?_) fun v2 v3 hi => h2 _ _ (by unfold idxW; rw [if_neg z, hi]; rfl)
      have := h1 (i + 1) v2 v3 (by unfold idxW; rw [if_neg z, hi]; rfl)
      rw [show m + (i + 1) = m + 1 + i by omega] at this
      exact this
theorem kp_index_with : Keeps S_index_with [] 2 4 w_index_with where
  fit := fun args Q E ⟨_, _, a, _⟩ => a ▸ fit2
  run := fun args Q E ⟨rows, k, e, hl, q⟩ => by
    subst e
    unfold w_index_with
    change wSeq _ _ _ [some (.fz (.lst (rows.map rowD))), some (.fz (.int (k : Int))), none, none]
    refine seq_k fun K1 hn1 hr1 _ _ _ => run_enum (vx 0 rfl) (.inr rfl) ?_
    refine lp_index rows 0 none none hl (fun i v2 v3 hi => ?_) fun v2 v3 hi => hn1 _ ?_
    · rw [hi] at q
      rw [hr1, Nat.zero_add]
      exact ⟨_, rfl, q⟩
    · rw [hi] at q
      exact run_ret (d := .non) ev_c ⟨_, rfl, q⟩
theorem ev_cleared {env e1 e2 e3 : En} {wa wb wc : EW} {r p : List Int} {k : Nat} (ha : Ev env wa (rowD r) e1) (hb : Ev e1 wb (rowD p) e2) (hc : Ev e2 wc (.int (k : Int)) e3) (hl : r.length = p.length) (hk : k < r.length) (h9 : r.length ≤ 900) (hr : ∀ j, (fv r j).natAbs < 2 ^ 4490) (hp : ∀ j, (fv p j).natAbs < 2 ^ 4490) : EvR env (wCall S_cleared (wCons wa (wCons wb (wCons wc wNil)))) (.fz (rowD (clrL r p k))) e3 :=
  ev_call (S := S_cleared) (ds := [rowD r, rowD p, .int (k : Int)]) (evl_cons ha (evl_cons hb (evl_cons hc evl_nil))) (fun q => ⟨r, p, k, rfl, hl, hk, h9, hr, hp, q⟩) fun i z => by cases z
/-- all rows on the way are small -/
def StOk (rows : List (List Int)) (w : Nat) : Prop := ∀ q, q ≤ w → ∀ r, r ∈ (stL rows q).1 ∨ r ∈ (stL rows q).2 → r.length = w ∧ ∀ j, (fv r j).natAbs < 2 ^ 4490
def S_reduced : FSpec := fun args Q _ => ∃ (rows : List (List Int)) (w : Nat), args = [.fz (.lst (rows.map rowD)), .fz (.int (w : Int))] ∧ w ≤ 100 ∧ rows.length ≤ 100 ∧ (∀ r, r ∈ rows → r.length = w ∧ ∀ j, (fv r j).natAbs < 2 ^ 8999) ∧ StOk rows w ∧ Q (.ow (.lst ((redL rows w).map rowD))) args
theorem mS_reduced : MonoF S_reduced := ⟨fun h _ ⟨a, b, c, d, e, f, g, q⟩ => ⟨a, b, c, d, e, f, g, h _ _ q⟩⟩
theorem st_few : ∀ (rows : List (List Int)) (q : Nat), (stL rows q).1.length ≤ rows.length ∧ (stL rows q).2.length ≤ q
  | rows, 0 => ⟨by show (rows.map simpL).length ≤ _; rw [List.length_map]; exact Nat.le_refl _, Nat.le_refl _⟩
  | rows, q + 1 => by
    obtain ⟨h1, h2⟩ := st_few rows q
    show (stepL (stL rows q) q).1.length ≤ _ ∧ (stepL (stL rows q) q).2.length ≤ _
    unfold stepL
    split
    · exact ⟨h1, by omega⟩
    · rename_i i hi
      refine ⟨?_, ?_⟩
      · show (List.map _ _).length ≤ _
        rw [List.length_map, List.length_append, List.length_take, List.length_drop]
        obtain ⟨p, _, _, hl⟩ := idxW_some hi
        omega
      · show (List.map _ _ ++ _).length ≤ _
        rw [List.length_append, List.length_map]
        show _ + 1 ≤ _
        omega
end LV
set_option maxHeartbeats 400000
namespace LV
open PySem PySem.Spec L2
theorem plainL_ints : ∀ r : List Int, plainL (r.map D.int) = true
  | [] => rfl
  | x :: r => by show (true && plainL (r.map D.int)) = true; rw [plainL_ints r]; rfl
theorem plainL_rows : ∀ rows : List (List Int), plainL (rows.map rowD) = true
  | [] => rfl
  | r :: rows => by show (plainL (r.map D.int) && plainL (rows.map rowD)) = true; rw [plainL_ints, plainL_rows rows]; rfl
theorem lay_ints : ∀ r : List Int, PyData.canLayAll0 (pdL (r.map D.int)) = true
  | [] => rfl
  | x :: r => by show (true && PyData.canLayAll0 (pdL (r.map D.int))) = true; rw [lay_ints r]; rfl
theorem lay_rows : ∀ rows : List (List Int), PyData.canLayAll0 (pdL (rows.map rowD)) = true
  | [] => rfl
  | r :: rows => by show (PyData.canLayAll0 (pdL (r.map D.int)) && PyData.canLayAll0 (pdL (rows.map rowD))) = true; rw [lay_ints, lay_rows rows]; rfl
theorem deep_ints : ∀ r : List Int, PyData.depthAll (pdL (r.map D.int)) = 0
  | [] => rfl
  | x :: r => by show max 0 (PyData.depthAll (pdL (r.map D.int))) = 0; rw [deep_ints r]; rfl
theorem deep_rows : ∀ rows : List (List Int), PyData.depthAll (pdL (rows.map rowD)) ≤ 1
  | [] => Nat.zero_le _
  | r :: rows => by
    show max (PyData.depthAll (pdL (r.map D.int)) + 1) (PyData.depthAll (pdL (rows.map rowD))) ≤ 1
    rw [deep_ints]
    exact Nat.max_le.mpr ⟨Nat.le_refl _, deep_rows rows⟩
theorem okE_rows (rows : List (List Int)) : (D.lst (rows.map rowD)).okE = true := by
  show (plainL (rows.map rowD) && (PyData.canLayAll0 (pdL (rows.map rowD)) && decide (PyData.depthAll (pdL (rows.map rowD)) + 1 ≤ 64))) = true
  have := deep_rows rows
  rw [plainL_rows, lay_rows, decide_eq_true (by omega)]; rfl
theorem eqv_ints : ∀ a b : List Int, PyData.eqvAll (pdL (a.map D.int)) (pdL (b.map D.int)) = decide (a = b)
  | [], [] => by simp [pdL, PyData.eqvAll]
  | [], _ :: _ => by simp [pdL, PyData.eqvAll]
  | _ :: _, [] => by simp [pdL, PyData.eqvAll]
  | x :: a, y :: b => by
    show ((x == y) && PyData.eqvAll (pdL (a.map D.int)) (pdL (b.map D.int))) = decide (x :: a = y :: b)
    rw [eqv_ints a b]
    by_cases h : x = y
    · by_cases h' : a = b
      · simp [h, h']
      · simp [h, h']
    · simp [h]
theorem eqv_rowsL : ∀ K L : List (List Int), PyData.eqvAll (pdL (K.map rowD)) (pdL (L.map rowD)) = decide (K = L)
  | [], [] => by simp [pdL, PyData.eqvAll]
  | [], _ :: _ => by simp [pdL, PyData.eqvAll]
  | _ :: _, [] => by simp [pdL, PyData.eqvAll]
  | x :: a, y :: b => by
    show (PyData.eqvAll (pdL (x.map D.int)) (pdL (y.map D.int)) && PyData.eqvAll (pdL (a.map rowD)) (pdL (b.map rowD))) = decide (x :: a = y :: b)
    rw [eqv_ints, eqv_rowsL a b]
    by_cases h : x = y
    · by_cases h' : a = b
      · simp [h, h']
      · simp [h, h']
    · simp [h]
theorem eqv_rows (K L : List (List Int)) : eqvD (.lst (K.map rowD)) (.lst (L.map rowD)) = decide (K = L) := eqv_rowsL K L
end LV
set_option exponentiation.threshold 2000
namespace LV
open PySem PySem.Spec L2
end LV
namespace LV
open PySem PySem.Spec L2
end LV
set_option maxHeartbeats 1000000
namespace LV
open PySem PySem.Spec L2
section
variable {env e1 e2 : En} {wa wb w : EW} {wl : AW} {a b : List Int} {n i k : Nat} {ds : List D} {d : D}
theorem lc_mapS {α : Type} {g f : α → D} {xs : List α} (h : env[k]? = some (some (.ow (.lst (xs.map g)))))
    (he : ∀ x ∈ xs, Ev (((env.set k (some (.fz (.lst (xs.map g))))).set i none).set i (some (.fz (g x)))) w (f x) (((env.set k (some (.fz (.lst (xs.map g))))).set i none).set i (some (.fz (g x))))) (hl : xs.length < 1000) :
    EvR env (wLc (.n i) (wIt [] (wVar k)) uYes w [i]) (.ow (.lst (xs.map f))) ((env.set k (some (.fz (.lst (xs.map g))))).set i none) := ⟨fun {Q E} q => by
  have sz := sizeLine_eq
  unfold wLc wIt
  simp only [wVar, h]
  show itR [] (.sl k) env _
  unfold itR
  dsimp only
  rw [if_neg List.not_mem_nil]
  refine ⟨.lst (xs.map g), env.set k (some (.fz (.lst (xs.map g)))), xs.map g, by simp only [frz1, h]; rfl, rfl, ?_⟩
  refine cw_mapL True.intro xs [] (fun x hx => ⟨_, rfl, ?_, he x hx⟩) (by rw [List.length_nil]; omega) q
  simp only [wipeE, List.set_set]⟩
theorem ev_tuple (h : Ev env w (.lst ds) e1) : EvR env (wBlt gTuple (wCons w wNil)) (.fz (.tup ds)) e1 := ev_blt (evl_cons h evl_nil) fun Q' q => q
theorem ev_maxL {ns : List Int} {m : Int} (h : Ev env w (.lst (ns.map D.int)) e1) (hm : m ∈ ns) (hx : ∀ y ∈ ns, y ≤ m) : EvR env (wBlt gMaxL (wCons w wNil)) (.fz (.int m)) e1 := ev_blt (evl_cons h evl_nil) fun Q' q => ⟨ns, m, rfl, hm, hx, q⟩
theorem run_forR2 {tg : Tg} {body : SW} {K : Ks} {xs : List D} {i j : Nat} (el : EvL env wl [.int (i : Int), .int (j : Int)] e1) (hi : i ≤ 1000) (hj : j ≤ 1000) (hx : rngD (i : Int) ((j : Int) - (i : Int)).toNat = xs) (q : loopW tg body yesK K xs e1) : wFor tg (wRng2 wl) body K env := by
  change wl env (fun rs e => ∃ i j, lookL e rs = some [.int i, .int j] ∧ okR i ∧ okR j ∧ loopW tg body yesK K (rngD i (j - i).toNat) e) _
  refine el.go ⟨(i : Int), (j : Int), rfl, by unfold okR; omega, by unfold okR; omega, ?_⟩
  rw [hx]
  exact q
end
section
variable {env e1 e2 : En} {w wa wb : EW} {wl : AW} {d : D} {r : Rv} {ds : List D} {i n : Nat} {x : Xn} {K : Ks}
theorem ev_l1 (h : Ev env w d e1) : EvR env (wLst (wCons w wNil)) (.ow (.lst [d])) e1 := ev_lst (ds := [d]) (evl_cons h evl_nil) (by have := sizeLine_eq; show 1 ≤ _; omega)
end
theorem fl_one {α : Type} (k : Nat) (x : α) : (List.replicate k [x]).flatten = List.replicate k x := by
  induction k with
  | zero => rfl
  | succ k ih => rw [List.replicate_succ, List.flatten_cons, ih, List.replicate_succ]; rfl
theorem run_retV {i : Nat} {K : Ks} {env : En} {o : O} (h : env[i]? = some (some (.ow o))) (q : K.rt (.ow o) (env.set i none)) : wRet [] (wVar i) K env := by
  unfold wRet
  simp only [wVar, h]
  show retR [] (.sl i) env K.rt
  simp only [retR, h, List.not_mem_nil, if_false]
  exact q
end LV
set_option exponentiation.threshold 20000
namespace LV
open PySem PySem.Spec L2
def redB : SW := (wSeq (wSet 6 (wCall S_index_with (wCons (wFrz (wVar 2)) (wCons (wFrz (wVar 5)) wNil))))
  (wIf (wB (wOp2 gIsNotN (wVar 6) (wC .non)))
  (wSeq (wSet 7 (wOp2 gIx (wVar 2) (wVar 6)))
  (wSeq (wSet 8 (wOp2 gAdd (wSl (wVar 2) wNoP (wPt (wVar 6))) (wSl (wVar 2) (wPt (wOp2 gAdd (wVar 6) (wC (.int 1)))) wNoP)))
  (wSeq (wSet 2 (wLc (.n 3) (wIt [] (wVar 8)) uYes (wCall S_cleared (wCons (wFrz (wVar 3)) (wCons (wFrz (wVar 7)) (wCons (wFrz (wVar 5)) wNil)))) [3]))
  (wSet 4 (wOp2 gAdd (wLc (.n 3) (wIt [] (wVar 4)) uYes (wCall S_cleared (wCons (wFrz (wVar 3)) (wCons (wFrz (wVar 7)) (wCons (wFrz (wVar 5)) wNil)))) [3]) (wLst (wCons (wVar 7) wNil)))))))
  wSkip))
/-- a list that is one's own or frozen -/
def HeldV (l : List (List Int)) (v : Option Val) : Prop := v = some (.fz (.lst (l.map rowD))) ∨ v = some (.ow (.lst (l.map rowD)))
abbrev E9d (A : D) (w : Nat) (v2 v3 : Option Val) (fm : List (List Int)) (v5 v6 v7 v8 : Option Val) : En := [some (.fz A), some (.fz (.int (w : Int))), v2, v3, some (.ow (.lst (fm.map rowD))), v5, v6, v7, v8]
theorem red_step {A : D} {w q : Nat} {st : RSt} {K : Ks} {v2 v6 v7 v8 : Option Val} (hw : w ≤ 100) (hq : q < w) (f1 : st.1.length ≤ 100) (f2 : st.2.length ≤ 100) (ok : ∀ r, r ∈ st.1 ∨ r ∈ st.2 → r.length = w ∧ ∀ j, (fv r j).natAbs < 2 ^ 4490) (h2 : HeldV st.1 v2)
    (hn : ∀ v2 v6 v7 v8, HeldV (stepL st q).1 v2 → K.nx (E9d A w v2 none (stepL st q).2 (some (.fz (.int (q : Int)))) v6 v7 v8)) : redB K (E9d A w v2 none st.2 (some (.fz (.int (q : Int)))) v6 v7 v8) := by
  have sz := sizeLine_eq
  have fz2 : Ev (E9d A w v2 none st.2 (some (.fz (.int (q : Int)))) v6 v7 v8) (wFrz (wVar 2)) (.lst (st.1.map rowD)) (E9d A w (some (.fz (.lst (st.1.map rowD)))) none st.2 (some (.fz (.int (q : Int)))) v6 v7 v8) := by
    rcases h2 with rfl | rfl
    · exact fx 2 rfl
    · exact (ev_frzs (i := 2) (o := .lst (st.1.map rowD)) rfl).fz
  have ix : EvR (E9d A w v2 none st.2 (some (.fz (.int (q : Int)))) v6 v7 v8) (wCall S_index_with (wCons (wFrz (wVar 2)) (wCons (wFrz (wVar 5)) wNil))) (.fz (idxD (idxW st.1 q))) (E9d A w (some (.fz (.lst (st.1.map rowD)))) none st.2 (some (.fz (.int (q : Int)))) v6 v7 v8) :=
    ev_call (S := S_index_with) (ds := [.lst (st.1.map rowD), .int (q : Int)]) (evl_cons fz2 (evl_cons (fx 5 rfl) evl_nil)) (fun q' => ⟨st.1, q, rfl, fun r hr => by rw [(ok r (.inl hr)).1]; exact hq, q'⟩) fun i z => by cases z
  unfold redB
  refine seq_k fun K1 hn1 _ _ _ _ => run_set ix (hn1 _ ?_)
  unfold stepL at hn
  cases hi : idxW st.1 q with
  | none =>
    rw [hi] at hn
    change wIf _ _ _ _ (E9d A w (some (.fz (.lst (st.1.map rowD)))) none st.2 (some (.fz (.int (q : Int)))) (some (.fz .non)) v7 v8)
    exact run_if_f (evt_B (k := false) (ev_op (vx 6 rfl) (cx (d := .non)) fun Q' q => ⟨rfl, q⟩)) (hn _ _ _ _ (.inl rfl))
  | some i =>
    rw [hi] at hn
    obtain ⟨p, hp, pq, hil⟩ := idxW_some hi
    have gp : st.1.getD i [] = p := by rw [List.getD_eq_getElem?_getD, hp]; rfl
    dsimp only at hn
    rw [gp] at hn
    have okp := ok p (.inl (List.mem_of_getElem? hp))
    change wIf _ _ _ _ (E9d A w (some (.fz (.lst (st.1.map rowD)))) none st.2 (some (.fz (.int (q : Int)))) (some (.fz (.int (i : Int)))) v7 v8)
    refine run_if_t (evt_B (k := true) (ev_op (vx 6 rfl) (cx (d := .non)) fun Q' q => ⟨rfl, q⟩)) ?_
    refine seq_k fun K2 hn2 _ _ _ _ => run_set (d := rowD p) (ev_op (vx 2 rfl) (vx 6 rfl) fun Q' q => ix_l (by rw [List.getElem?_map, hp]; rfl) q) (hn2 _ ?_)
    change wSeq _ _ _ (E9d A w (some (.fz (.lst (st.1.map rowD)))) none st.2 (some (.fz (.int (q : Int)))) (some (.fz (.int (i : Int)))) (some (.fz (rowD p))) v8)
    obtain ⟨ot, hot⟩ : ∃ ot, st.1.take i ++ st.1.drop (i + 1) = ot := ⟨_, rfl⟩
    have oth : EvR (E9d A w (some (.fz (.lst (st.1.map rowD)))) none st.2 (some (.fz (.int (q : Int)))) (some (.fz (.int (i : Int)))) (some (.fz (rowD p))) v8) (wOp2 gAdd (wSl (wVar 2) wNoP (wPt (wVar 6))) (wSl (wVar 2) (wPt (wOp2 gAdd (wVar 6) (wC (.int 1)))) wNoP)) (.ow (.lst (ot.map rowD))) (E9d A w (some (.fz (.lst (st.1.map rowD)))) none st.2 (some (.fz (.int (q : Int)))) (some (.fz (.int (i : Int)))) (some (.fz (rowD p))) v8) := by
      have gv : EvG rowD (E9d A w (some (.fz (.lst (st.1.map rowD)))) none st.2 (some (.fz (.int (q : Int)))) (some (.fz (.int (i : Int)))) (some (.fz (rowD p))) v8) (wVar 2) st.1 100 := g_var rfl f1
      have := gR_add (g_to (k := i) (wa := wVar 6) gv (ev_var rfl)) (g_from (k := i + 1) gv (by
        have := ev_addi (env := E9d A w (some (.fz (.lst (st.1.map rowD)))) none st.2 (some (.fz (.int (q : Int)))) (some (.fz (.int (i : Int)))) (some (.fz (rowD p))) v8) (wa := wVar 6) (wb := wC (.int 1)) (a := (i : Int)) (b := 1) (vx 6 rfl) cx
        exact this)) (by decide)
      rw [hot] at this
      exact this
    have oko : ∀ r, r ∈ ot → r.length = w ∧ ∀ j, (fv r j).natAbs < 2 ^ 4490 := fun r hr => ok r (.inl (mem_unsplit (by rw [hot]; exact hr)))
    have ol : ot.length ≤ 100 := by
      rw [← hot, List.length_append, List.length_take, List.length_drop]; omega
    rw [hot] at hn
    refine seq_k fun K3 hn3 _ _ _ _ => run_setO oth (hn3 _ ?_)
    change wSeq _ _ _ (E9d A w (some (.fz (.lst (st.1.map rowD)))) none st.2 (some (.fz (.int (q : Int)))) (some (.fz (.int (i : Int)))) (some (.fz (rowD p))) (some (.ow (.lst (ot.map rowD)))))
    have lc : EvR (E9d A w (some (.fz (.lst (st.1.map rowD)))) none st.2 (some (.fz (.int (q : Int)))) (some (.fz (.int (i : Int)))) (some (.fz (rowD p))) (some (.ow (.lst (ot.map rowD))))) (wLc (.n 3) (wIt [] (wVar 8)) uYes (wCall S_cleared (wCons (wFrz (wVar 3)) (wCons (wFrz (wVar 7)) (wCons (wFrz (wVar 5)) wNil)))) [3]) (.ow (.lst (ot.map fun r => rowD (clrL r p q)))) (E9d A w (some (.fz (.lst (st.1.map rowD)))) none st.2 (some (.fz (.int (q : Int)))) (some (.fz (.int (i : Int)))) (some (.fz (rowD p))) (some (.fz (.lst (ot.map rowD))))) :=
      lc_mapS (k := 8) (i := 3) (g := rowD) (f := fun r => rowD (clrL r p q)) (xs := ot) rfl (fun r hr => (ev_cleared (fx 3 rfl) (fx 7 rfl) (fx 5 rfl) (by rw [(oko r hr).1, okp.1]) (by rw [(oko r hr).1]; exact hq) (by rw [(oko r hr).1]; omega) (oko r hr).2 okp.2).fz) (by omega)
    rw [show (ot.map fun r => rowD (clrL r p q)) = (ot.map fun r => clrL r p q).map rowD by rw [List.map_map]; rfl] at lc
    refine seq_k fun K4 hn4 _ _ _ _ => run_setO lc (hn4 _ ?_)
    obtain ⟨v2', hv2'⟩ : ∃ v, v = (some (.ow (.lst ((ot.map fun r => clrL r p q).map rowD))) : Option Val) := ⟨_, rfl⟩
    have : ∀ K' : Ks, K'.nx = K.nx → wSet 4 (wOp2 gAdd (wLc (.n 3) (wIt [] (wVar 4)) uYes (wCall S_cleared (wCons (wFrz (wVar 3)) (wCons (wFrz (wVar 7)) (wCons (wFrz (wVar 5)) wNil)))) [3]) (wLst (wCons (wVar 7) wNil))) K' (E9d A w v2' none st.2 (some (.fz (.int (q : Int)))) (some (.fz (.int (i : Int)))) (some (.fz (rowD p))) (some (.fz (.lst (ot.map rowD))))) := fun K' hK' => by
      have lc4 : EvR (E9d A w v2' none st.2 (some (.fz (.int (q : Int)))) (some (.fz (.int (i : Int)))) (some (.fz (rowD p))) (some (.fz (.lst (ot.map rowD))))) (wLc (.n 3) (wIt [] (wVar 4)) uYes (wCall S_cleared (wCons (wFrz (wVar 3)) (wCons (wFrz (wVar 7)) (wCons (wFrz (wVar 5)) wNil)))) [3]) (.ow (.lst (st.2.map fun r => rowD (clrL r p q)))) [some (.fz A), some (.fz (.int (w : Int))), v2', none, some (.fz (.lst (st.2.map rowD))), some (.fz (.int (q : Int))), some (.fz (.int (i : Int))), some (.fz (rowD p)), some (.fz (.lst (ot.map rowD)))] :=
        lc_mapS (k := 4) (i := 3) (g := rowD) (f := fun r => rowD (clrL r p q)) (xs := st.2) rfl (fun r hr => (ev_cleared (fx 3 rfl) (fx 7 rfl) (fx 5 rfl) (by rw [(ok r (.inr hr)).1, okp.1]) (by rw [(ok r (.inr hr)).1]; exact hq) (by rw [(ok r (.inr hr)).1]; omega) (ok r (.inr hr)).2 okp.2).fz) (by omega)
      refine run_setO (evR_add lc4.ow (ev_l1 (vx 7 rfl)).ow (by rw [List.length_map]; show st.2.length + 1 ≤ 1000; omega)) ?_
      rw [hK']
      have := hn v2' (some (.fz (.int (i : Int)))) (some (.fz (rowD p))) (some (.fz (.lst (ot.map rowD)))) (.inr hv2')
      rw [show (st.2.map fun r => rowD (clrL r p q)) ++ [rowD p] = (st.2.map (fun r => clrL r p q) ++ [p]).map rowD by rw [List.map_append, List.map_map]; rfl]
      exact this
    have := this K rfl
    rw [hv2'] at this
    exact this
theorem red_lp {A : D} {w : Nat} {rows : List (List Int)} {K : Ks} (hw : w ≤ 100) (hf : rows.length ≤ 100) (ok : StOk rows w)
    (hn : ∀ v2 v5 v6 v7 v8, K.nx (E9d A w v2 none (redL rows w) v5 v6 v7 v8)) : ∀ (j q : Nat) (v2 v5 v6 v7 v8 : Option Val), q + j = w → HeldV (stL rows q).1 v2 → loopW (.n 5) redB yesK K (rngD (q : Int) j) (E9d A w v2 none (stL rows q).2 v5 v6 v7 v8)
  | 0, q, v2, v5, v6, v7, v8, hj, h2 => ⟨True.intro, by
    have e : q = w := by omega
    subst e
    exact hn v2 v5 v6 v7 v8⟩
  | j + 1, q, v2, v5, v6, v7, v8, hj, h2 => by
    refine ⟨True.intro, _, rfl, ?_⟩
    have fe := st_few rows q
    refine red_step (q := q) (st := stL rows q) hw (by omega) (by omega) (by omega) (ok q (by omega)) h2 fun v2 v6 v7 v8 h2' => ?_
    show loopW _ _ yesK K (rngD ((q : Int) + 1) j) _
    rw [show (q : Int) + 1 = ((q + 1 : Nat) : Int) by omega]
    exact red_lp hw hf ok hn j (q + 1) v2 _ v6 v7 v8 (by omega) h2'
theorem kp_reduced : Keeps S_reduced [] 2 9 (w_reduced S_simplified S_index_with S_cleared) where
  fit := fun args Q E ⟨_, _, a, _⟩ => a ▸ fit2
  run := fun args Q E ⟨rows, w, e, hw, hf, hr, ok, q⟩ => by
    subst e
    unfold w_reduced
    have sz := sizeLine_eq
    obtain ⟨A, hA⟩ : ∃ A, D.lst (rows.map rowD) = A := ⟨_, rfl⟩
    have hit : itemsD A = some (rows.map rowD) := by rw [← hA]; rfl
    rw [hA] at q ⊢
    change wSeq _ _ _ [some (.fz A), some (.fz (.int (w : Int))), none, none, none, none, none, none, none]
    have lc : EvR [some (.fz A), some (.fz (.int (w : Int))), none, none, none, none, none, none, none] (wLc (.n 3) (wIt [] (wVar 0)) uYes (wCall S_simplified (wCons (wFrz (wVar 3)) wNil)) [3]) (.ow (.lst (rows.map fun r => rowD (simpL r)))) [some (.fz A), some (.fz (.int (w : Int))), none, none, none, none, none, none, none] :=
      lc_mapL (i := 3) (pn := []) (g := rowD) (f := fun r => rowD (simpL r)) (xs := rows) (ev_var rfl) hit (fun r hr' => (ev_call (S := S_simplified) (ds := [rowD r]) (evl_cons (fx 3 rfl) evl_nil) (fun q => ⟨rowD r, r, rfl, sqT r, by rw [(hr r hr').1]; omega, fun x hx => by
        obtain ⟨j, _, e⟩ := fv_mem hx
        rw [← e]; exact (hr r hr').2 j, q⟩) fun i z => by cases z).fz) (by omega)
    rw [show (rows.map fun r => rowD (simpL r)) = (rows.map simpL).map rowD by rw [List.map_map]; rfl] at lc
    refine seq_k fun K1 hn1 _ _ _ _ => run_setO lc (hn1 _ ?_)
    refine seq_k fun K2 hn2 _ _ _ _ => run_setO (ev_lst (ds := []) evl_nil (Nat.zero_le _)) (hn2 _ ?_)
    change wSeq _ _ _ (E9d A w (some (.ow (.lst ((rows.map simpL).map rowD)))) none [] none none none none)
    refine seq_k fun K3 hn3 _ _ _ _ => run_forR (n := w) (evl_cons (vx 1 rfl) evl_nil) (by omega) ?_
    refine red_lp (rows := rows) hw hf ok (fun v2 v5 v6 v7 v8 => hn3 _ ?_) w 0 _ none none none none (by omega) (.inr rfl)
    exact run_retV (i := 4) (o := .lst ((redL rows w).map rowD)) rfl ⟨_, rfl, q⟩
end LV
namespace LV
open PySem PySem.Spec L2
def BagOk (o : O) (m : Int) : Prop := ∃ g s n : Int, o = .lst [.int g, .int s, .int n] ∧ -1 ≤ s ∧ s < 2147483648 ∧ 0 ≤ n ∧ n ≤ m + 2000
def S__law_take : FSpec := fun args Q _ => ∃ o many m, args = [.ow o, .fz (.int many)] ∧ BagOk o m ∧ 1 ≤ many ∧ many < 10 ^ 40 ∧ m < 100000000 ∧ ∀ d o', 0 ≤ d → d < many → BagOk o' (m + 1) → Q (.fz (.int d)) [.ow o', .fz (.int many)]
theorem mS__law_take : MonoF S__law_take := ⟨fun h _ ⟨o, k, m, a, b, c, d, e, q⟩ => ⟨o, k, m, a, b, c, d, e, fun x y h1 h2 h3 => h _ _ (q x y h1 h2 h3)⟩⟩
theorem bits31 {i : Int} (h : -2147483648 ≤ i) (h' : i ≤ 2147483648) : Builtin.Int.intBits i ≤ 32 := PyProof.Rows.intBits_le (by omega)
theorem kp__law_take : Keeps S__law_take [0] 2 5 w__law_take where
  fit := fun args Q E ⟨o, k, m, a, _⟩ => a ▸ fitO2
  run := fun args Q E ⟨o, many, m, a, ⟨g, s, n, e, s0, s1, n0, n1⟩, h1, h2, hm, q⟩ => by
    subst a e
    unfold w__law_take
    have bag1 : ∀ g', BagOk (.lst [.int g', .int s, .int n]) (m + 1) := fun g' => ⟨g', s, n, rfl, s0, s1, n0, by omega⟩
    have bag2 : ∀ g', BagOk (.lst [.int g', .int s, .int (n + 1)]) (m + 1) := fun g' => ⟨g', s, n + 1, rfl, s0, s1, by omega, by omega⟩
    refine seq_k fun K2 hn2 hr2 hb2 hct2 he2 => ?_
    walk_at "lv"
    refine iteB (fun hg => ?_) fun hg => ?_
    · rw [hr2]
      walk_at "lv"
      obtain ⟨f1, f2⟩ := fm_nn (i := g) h1
      exact ⟨by omega, dv_ok h1 h2, 0, rfl, q _ _ f1 f2 (bag1 _)⟩
    · refine hn2 _ (seq_k fun K3 hn3 hr3 hb3 hct3 he3 => ?_)
      walk_at "lv"
      refine ⟨2, rfl, hn3 _ ?_⟩
      show wSeq _ _ _ [some (.ow (.lst [.int g, .int s, .int (n + 1)])), some (.fz (.int many)), none, none, none]
      refine (seq_k fun K4 hn4 hr4 hb4 hct4 he4 => ?_)
      walk_at "lv"
      refine iteB (fun hz => ?_) fun hz => ?_
      · rw [hr4]
        walk_at "lv"
        obtain ⟨f1, f2⟩ := fm_nn (i := n + 1) h1
        exact ⟨by omega, q _ _ f1 f2 (bag2 _)⟩
      · refine hn4 _ (seq_k fun K6 hn6 hr6 hb6 hct6 he6 => ?_)
        walk_at "lv"
        have bn : Builtin.Int.intBits (n + 1) ≤ 32 := bits31 (by omega) (by omega)
        have bs : Builtin.Int.intBits s ≤ 32 := bits31 (by omega) (by omega)
        refine ⟨by unfold CMulX; have := bits31 (i := 48271) (by decide) (by decide); omega, by unfold CMulX; have := bits31 (i := 69621) (by decide) (by decide); omega, by decide, ?_⟩
        obtain ⟨a1, a2⟩ := fm_nn (i := s * 48271 + (n + 1) * 69621 + 11) (j := 2147483647) (by decide)
        generalize (s * 48271 + (n + 1) * 69621 + 11).fmod 2147483647 = x5 at a1 a2 ⊢
        refine hn6 _ (seq_k fun K7 hn7 hr7 hb7 hct7 he7 => ?_)
        walk_at "lv"
        have b5 : Builtin.Int.intBits x5 ≤ 32 := bits31 (by omega) (by omega)
        have d5 : x5.fdiv 46341 = x5 / 46341 := Int.fdiv_eq_ediv_of_nonneg _ (by decide)
        have b7 : Builtin.Int.intBits (x5.fdiv 46341 + 7) ≤ 32 := bits31 (by omega) (by omega)
        refine ⟨dv_ok (by decide) (by decide), by unfold CMulX; omega, by unfold CMulX; have := bits31 (i := 40692) (by decide) (by decide); omega, by decide, ?_⟩
        obtain ⟨c1, c2⟩ := fm_nn (i := x5 * (x5.fdiv 46341 + 7) + (n + 1) * 40692) (j := 2147483399) (by decide)
        generalize (x5 * (x5.fdiv 46341 + 7) + (n + 1) * 40692).fmod 2147483399 = x6 at c1 c2 ⊢
        refine hn7 _ ?_
        walk_at "lv"
        obtain ⟨d1, d2⟩ := fm_nn (i := x6.fdiv 5) h1
        exact ⟨dv_ok (by decide) (by decide), by omega, q _ _ d1 d2 (bag2 _)⟩
theorem BagOk.mono {o : O} {m m' : Int} (h : BagOk o m) (k : m ≤ m') : BagOk o m' :=
  let ⟨g, s, n, e, s0, s1, n0, n1⟩ := h
  ⟨g, s, n, e, s0, s1, n0, by omega⟩
def S__law_bag : FSpec := fun args Q _ => ∃ (ns : List Int) (k : Nat), args = [.fz (.scr ns), .fz (.int (k : Int))] ∧ k ≤ 15 ∧ (∀ z ∈ ns, Builtin.Int.intBits z ≤ 1048576) ∧ ∀ o, BagOk o 0 → Q (.ow o) args
theorem mS__law_bag : MonoF S__law_bag := ⟨fun h _ ⟨o, k, a, b, c, q⟩ => ⟨o, k, a, b, c, fun x y => h _ _ (q x y)⟩⟩
theorem ev_ixX {env e1 e2 : En} {wa wb : EW} {ns : List Int} {k : Nat} {x : Int} (ha : Ev env wa (.scr ns) e1) (hb : Ev e1 wb (.int (k : Int)) e2) (h : ns[k]? = some x) : EvR env (wOp2 gIx wa wb) (.fz (.int x)) e2 := ev_op ha hb fun Q' q => ⟨x, at_nat h, q⟩
theorem kp__law_bag : Keeps S__law_bag [] 2 4 w__law_bag where
  fit := fun args Q E ⟨ns, k, a, _⟩ => a ▸ fit2
  run := fun args Q E ⟨ns, k, a, hk, hz, q⟩ => by
    subst a
    unfold w__law_bag
    have sz := sizeLine_eq
    change wSeq _ _ _ [some (.fz (.scr ns)), some (.fz (.int (k : Int))), none, none]
    have bk : Builtin.Int.intBits (k : Int) ≤ 32 := bits31 (by omega) (by omega)
    have m100 : ∀ {v2 v3}, EvR [some (.fz (.scr ns)), some (.fz (.int (k : Int))), v2, v3] (wOp2 gMulT (wC (.int 100)) (wVar 1)) (.fz (.int (100 * (k : Int)))) [some (.fz (.scr ns)), some (.fz (.int (k : Int))), v2, v3] := ev_mulX cx (vx 1 rfl) (by unfold CMulX; have := bits31 (i := 100) (by decide) (by decide); omega)
    cases ns with
    | nil =>
      refine sk_t (evt_not (k := false) (evt_tru (vx 0 rfl) rfl)) fun K' hr _ => run_retO (ev_lst (ds := [.int 0, .int (-1), .int (100 * (k : Int))]) (evl_cons cx (evl_cons ev_neg.fz (evl_cons m100.fz evl_nil))) (by show 3 ≤ _; omega)) ?_
      rw [hr]
      exact ⟨_, rfl, q _ ⟨0, -1, 100 * (k : Int), rfl, by decide, by decide, by omega, by omega⟩⟩
    | cons x ns =>
      refine sk_f (evt_not (k := true) (evt_tru (vx 0 rfl) rfl)) ?_
      obtain ⟨A, hA⟩ : ∃ A, D.scr (x :: ns) = A := ⟨_, rfl⟩
      have vA : ∀ {v2 v3}, Ev [some (.fz A), some (.fz (.int (k : Int))), v2, v3] (wVar 0) (.scr (x :: ns)) [some (.fz A), some (.fz (.int (k : Int))), v2, v3] := vx 0 (by rw [hA]; rfl)
      rw [hA] at q m100 ⊢
      have bx := hz x List.mem_cons_self
      have e1 : EvR [some (.fz A), some (.fz (.int (k : Int))), none, none] (wOp2 gAdd (wOp2 gMulT (wOp2 gIx (wVar 0) (wC (.int 0))) (wC (.int 7919))) (wOp2 gMulT (wC (.int 104729)) (wVar 1))) (.fz (.int (x * 7919 + 104729 * (k : Int)))) [some (.fz A), some (.fz (.int (k : Int))), none, none] :=
        ev_addi (ev_mulX (ev_ixX (k := 0) vA cx rfl).fz cx (by unfold CMulX; have := bits31 (i := 7919) (by decide) (by decide); omega)).fz (ev_mulX cx (vx 1 rfl) (by unfold CMulX; have := bits31 (i := 104729) (by decide) (by decide); omega)).fz
      refine seq_k fun K1 hn1 _ _ _ _ => run_set e1 (hn1 _ ?_)
      -- from the cell on
      have rest : ∀ c : Int, wSeq (wIf (wB (wOp2 gLt (wVar 2) (wC (.int 0)))) (wSet 2 (wOp2 gSub (wC (.int 1)) (wVar 2))) wSkip) (wSeq (wSet 3 (wC (.int 0))) (wSeq (wIf (wB (wOp2 gGe (wVar 2) (wOp2 gPow (wC (.int 10)) (wC (.int 18))))) (wSet 3 (wVar 2)) wSkip) (wRet [] (wLst (wCons (wVar 3) (wCons (wOp2 gMod (wBlt gInt1 (wCons (wVar 2) wNil)) (wC (.int 2147483629))) (wCons (wOp2 gMulT (wC (.int 100)) (wVar 1)) wNil))))))) (KsFn [] [.fz A, .fz (.int (k : Int))] Q E) [some (.fz A), some (.fz (.int (k : Int))), some (.fz (.int c)), none] := fun c => by
        have fin : ∀ c : Int, wSeq (wSet 3 (wC (.int 0))) (wSeq (wIf (wB (wOp2 gGe (wVar 2) (wOp2 gPow (wC (.int 10)) (wC (.int 18))))) (wSet 3 (wVar 2)) wSkip) (wRet [] (wLst (wCons (wVar 3) (wCons (wOp2 gMod (wBlt gInt1 (wCons (wVar 2) wNil)) (wC (.int 2147483629))) (wCons (wOp2 gMulT (wC (.int 100)) (wVar 1)) wNil)))))) (KsFn [] [.fz A, .fz (.int (k : Int))] Q E) [some (.fz A), some (.fz (.int (k : Int))), some (.fz (.int c)), none] := fun c => by
          have end3 : ∀ g : Int, wRet [] (wLst (wCons (wVar 3) (wCons (wOp2 gMod (wBlt gInt1 (wCons (wVar 2) wNil)) (wC (.int 2147483629))) (wCons (wOp2 gMulT (wC (.int 100)) (wVar 1)) wNil)))) (KsFn [] [.fz A, .fz (.int (k : Int))] Q E) [some (.fz A), some (.fz (.int (k : Int))), some (.fz (.int c)), some (.fz (.int g))] := fun g => by
            obtain ⟨f1, f2⟩ := fm_nn (i := c) (j := 2147483629) (by decide)
            exact run_retO (ev_lst (ds := [.int g, .int (c.fmod 2147483629), .int (100 * (k : Int))]) (evl_cons (vx 3 rfl) (evl_cons (ev_mod (ev_int1 (vx 2 rfl)).fz cx (by decide)).fz (evl_cons m100.fz evl_nil))) (by show 3 ≤ _; omega)) ⟨_, rfl, q _ ⟨g, c.fmod 2147483629, 100 * (k : Int), rfl, by omega, by omega, by omega, by omega⟩⟩
          refine seq_k fun K1 hn1 _ _ _ _ => run_set (d := .int 0) ev_c (hn1 _ ?_)
          have pw : Ev [some (.fz A), some (.fz (.int (k : Int))), some (.fz (.int c)), some (.fz (.int 0))] (wOp2 gPow (wC (.int 10)) (wC (.int 18))) (.int (10 ^ 18)) [some (.fz A), some (.fz (.int (k : Int))), some (.fz (.int c)), some (.fz (.int 0))] := (ev_op cx cx fun Q' q => by
            rw [gPow_ii]; exact ⟨⟨by decide, by decide, by decide⟩, q⟩).fz
          by_cases hc : (10 : Int) ^ 18 ≤ c
          · exact seq_k fun K2 hn2 _ _ _ _ => run_if_t (evt_B (k := true) (ev_gei (vx 2 rfl) pw (decide_eq_true hc))) (run_set (d := .int c) (ev_var rfl) (hn2 _ (end3 c)))
          · exact sk_f (evt_B (k := false) (ev_gei (vx 2 rfl) pw (decide_eq_false hc))) (end3 0)
        by_cases hc : c < 0
        · exact seq_k fun K2 hn2 _ _ _ _ => run_if_t (evt_B (k := true) (ev_lti (vx 2 rfl) cx (decide_eq_true hc))) (run_set (d := .int (1 - c)) (ev_subi cx (vx 2 rfl)) (hn2 _ (fin (1 - c))))
        · exact sk_f (evt_B (k := false) (ev_lti (vx 2 rfl) cx (decide_eq_false hc))) (fin c)
      have ln : Ev [some (.fz A), some (.fz (.int (k : Int))), some (.fz (.int (x * 7919 + 104729 * (k : Int)))), none] (wBlt gLen (wCons (wVar 0) wNil)) (.int ((x :: ns).length : Int)) [some (.fz A), some (.fz (.int (k : Int))), some (.fz (.int (x * 7919 + 104729 * (k : Int)))), none] := (ev_blt (evl_cons vA evl_nil) fun Q' q => q).fz
      by_cases hlt : k < (x :: ns).length
      · refine seq_k fun K2 hn2 _ _ _ _ => run_if_t (evt_B (k := true) (ev_lti (vx 1 rfl) ln (decide_eq_true (by omega)))) (run_set (ev_ixX vA (vx 1 rfl) (List.getElem?_eq_getElem hlt)) (hn2 _ (rest _)))
      · exact sk_f (evt_B (k := false) (ev_lti (vx 1 rfl) ln (decide_eq_false (by omega)))) (rest _)
end LV
set_option maxHeartbeats 400000
namespace LV
def primL (r : List Int) : List Int := if gfold 0 r < 2 then r else r.map fun x => x.fdiv (gfold 0 r : Int)
theorem primL_len (r : List Int) : (primL r).length = r.length := by unfold primL; split; rfl; rw [List.length_map]
theorem gfold_fv (r : List Int) (j : Nat) : (gfold 0 r : Int) ∣ fv r j := by
  by_cases z : j < r.length
  · exact (gfold_dvd r 0).2 _ (fv_in z)
  · rw [fv_out (by omega)]; exact Int.dvd_zero _
theorem primL_mul (r : List Int) : ∃ t : Int, 0 < t ∧ ∀ j, fv r j = t * fv (primL r) j := by
  unfold primL
  by_cases h : gfold 0 r < 2
  · exact ⟨1, by decide, fun j => by rw [if_pos h, Int.one_mul]⟩
  · refine ⟨(gfold 0 r : Int), by omega, fun j => ?_⟩
    rw [if_neg h, fv_map (by rw [Int.zero_fdiv])]
    obtain ⟨k, hk⟩ := gfold_fv r j
    rw [hk, Int.mul_fdiv_cancel_left k (by omega)]
theorem prim_one {r : List Int} (h : Prim (fv r)) : gfold 0 r = 1 := by
  have := h (gfold 0 r : Int) (gfold_fv r)
  omega
theorem primL_prim (r : List Int) : (∀ j, fv (primL r) j = 0) ∨ Prim (fv (primL r)) := by
  by_cases h0 : gfold 0 r = 0
  · refine .inl fun j => ?_
    obtain ⟨t, ht, e⟩ := primL_mul r
    have : fv r j = 0 := by
      by_cases z : j < r.length
      · exact gfold_zero h0 _ (fv_in z)
      · exact fv_out (by omega)
    have q := e j
    rw [this] at q
    exact (Int.mul_eq_zero.mp q.symm).resolve_left (by omega)
  · refine .inr fun d hd => ?_
    have e : ∀ j, fv r j = (gfold 0 r : Int) * fv (primL r) j := fun j => by
      unfold primL
      by_cases h : gfold 0 r < 2
      · rw [if_pos h, show gfold 0 r = 1 by omega]; exact (Int.one_mul _).symm
      · rw [if_neg h, fv_map (by rw [Int.zero_fdiv])]
        obtain ⟨k, hk⟩ := gfold_fv r j
        rw [hk, Int.mul_fdiv_cancel_left k (by omega)]
    have h1 : d * (gfold 0 r : Int) ∣ (gfold 0 r : Int) := gfold_max r 0 _ (Int.dvd_zero _) fun x hx => by
      obtain ⟨j, _, rfl⟩ := fv_mem hx
      rw [e j, Int.mul_comm d]
      exact Int.mul_dvd_mul_left _ (hd j)
    have h2 := Int.natAbs_dvd_natAbs.mpr h1
    rw [Int.natAbs_mul] at h2
    have h3 : d.natAbs * gfold 0 r ∣ gfold 0 r := h2
    have h4 := Nat.le_of_dvd (by omega) h3
    have d0 : d.natAbs ≠ 0 := fun z => by
      rw [z, Nat.zero_mul] at h3
      exact h0 (Nat.zero_dvd.mp h3)
    have h5 : d.natAbs * gfold 0 r ≤ 1 * gfold 0 r := by omega
    have := Nat.le_of_mul_le_mul_right h5 (by omega)
    omega
theorem primL_abs (r : List Int) (j : Nat) : (fv (primL r) j).natAbs ≤ (fv r j).natAbs := by
  obtain ⟨t, ht, e⟩ := primL_mul r
  rw [e j, Int.natAbs_mul]
  have : 1 * (fv (primL r) j).natAbs ≤ t.natAbs * (fv (primL r) j).natAbs := Nat.mul_le_mul_right _ (by omega)
  omega
def lclr (r : List Int) (k : Nat) (o : List Int) : List Int := if fv r k = 0 then r else primL (List.zipWith (fun x y => x * fv o k - y * fv r k) r o)
section
variable {r o : List Int} {k : Nat}
theorem lclr_len (h : r.length = o.length) : (lclr r k o).length = r.length := by
  unfold lclr
  split
  · rfl
  · rw [primL_len, List.length_zipWith]; omega
theorem lclr_mul (h : r.length = o.length) (ho : fv o k ≠ 0) : ∃ t a b : Int, t ≠ 0 ∧ a ≠ 0 ∧ (∀ j, t * fv (lclr r k o) j = a * fv r j + b * fv o j) ∧ fv (lclr r k o) k = 0 := by
  unfold lclr
  split
  · rename_i z
    exact ⟨1, 1, 0, by decide, by decide, fun j => by rw [Int.zero_mul, Int.add_zero], z⟩
  · obtain ⟨t, ht, e⟩ := primL_mul (List.zipWith (fun x y => x * fv o k - y * fv r k) r o)
    have e2 : ∀ j, t * fv (primL (List.zipWith (fun x y => x * fv o k - y * fv r k) r o)) j = fv o k * fv r j + (-fv r k) * fv o j := fun j => by
      rw [← e j, fv_zip (by rw [Int.zero_mul, Int.zero_mul]; rfl) r o j h, Int.neg_mul, Int.mul_comm (fv r j), Int.mul_comm (fv o j)]; omega
    refine ⟨t, fv o k, -fv r k, by omega, ho, e2, ?_⟩
    have := e2 k
    rw [Int.neg_mul, Int.mul_comm (fv o k)] at this
    have k0 : t * fv (primL (List.zipWith (fun x y => x * fv o k - y * fv r k) r o)) k = 0 := by omega
    exact (Int.mul_eq_zero.mp k0).resolve_left (by omega)
theorem lclr_abs (h : r.length = o.length) {A C : Nat} (hr : ∀ j, (fv r j).natAbs ≤ A) (ho : ∀ j, (fv o j).natAbs ≤ C) (hC : 1 ≤ C) : ∀ j, (fv (lclr r k o) j).natAbs ≤ 2 * C * A := fun j => by
  have big : A ≤ 2 * C * A := by
    have := Nat.mul_le_mul_right A (show 1 ≤ 2 * C by omega)
    omega
  unfold lclr
  split
  · exact Nat.le_trans (hr j) big
  · refine Nat.le_trans (primL_abs _ j) ?_
    rw [fv_zip (by rw [Int.zero_mul, Int.zero_mul]; rfl) r o j h]
    have h1 : (fv r j * fv o k).natAbs ≤ C * A := by rw [Int.natAbs_mul, Nat.mul_comm]; exact Nat.mul_le_mul (ho k) (hr j)
    have h2 : (fv o j * fv r k).natAbs ≤ C * A := by rw [Int.natAbs_mul]; exact Nat.mul_le_mul (ho j) (hr k)
    have h3 : 2 * C * A = C * A + C * A := by rw [Nat.mul_assoc, Nat.two_mul]
    omega
end
/-- cleared by one after the other -/
def spanL : List (Nat × List Int) → List Int → List Int
  | [], r => r
  | p :: K, r => spanL K (lclr r p.1 p.2)
theorem spanL_len {w : Nat} : ∀ (K : List (Nat × List Int)) (r : List Int), (∀ p, p ∈ K → p.2.length = w) → r.length = w → (spanL K r).length = w
  | [], _, _, h => h
  | p :: K, r, hK, h => spanL_len K _ (fun q hq => hK q (List.mem_cons_of_mem _ hq)) (by rw [lclr_len (by rw [h, hK p List.mem_cons_self])]; exact h)
theorem spanL_abs {w C : Nat} (hC : 1 ≤ C) : ∀ (K : List (Nat × List Int)) (r : List Int) (A : Nat), (∀ p, p ∈ K → p.2.length = w ∧ ∀ j, (fv p.2 j).natAbs ≤ C) → r.length = w → (∀ j, (fv r j).natAbs ≤ A) → ∀ j, (fv (spanL K r) j).natAbs ≤ (2 * C) ^ K.length * A
  | [], r, A, _, _, h => fun j => by
    show (fv r j).natAbs ≤ (2 * C) ^ 0 * A
    rw [Nat.pow_zero, Nat.one_mul]; exact h j
  | p :: K, r, A, hK, hl, h => fun j => by
    obtain ⟨pl, pc⟩ := hK p List.mem_cons_self
    have := spanL_abs hC K (lclr r p.1 p.2) (2 * C * A) (fun q hq => hK q (List.mem_cons_of_mem _ hq)) (by rw [lclr_len (by rw [hl, pl])]; exact hl) (lclr_abs (by rw [hl, pl]) h pc hC) j
    rw [List.length_cons, Nat.pow_succ, Nat.mul_assoc]
    exact this
/-- what vanishes is kept nought by rows that vanish there, too -/
theorem spanL_sp {w : Nat} : ∀ (K : List (Nat × List Int)) (r : List Int), (∀ p, p ∈ K → p.2.length = w ∧ fv p.2 p.1 ≠ 0) → r.length = w → K.Pairwise (fun p q => fv q.2 p.1 = 0) → ∀ (G : Vc → Prop), (∀ p, p ∈ K → G (fv p.2)) →
    (Sp (fun v => G v ∨ v = fv r) (fv (spanL K r)) ∧ Sp (fun v => G v ∨ v = fv (spanL K r)) (fv r) ∧ (∀ p, p ∈ K → fv (spanL K r) p.1 = 0) ∧ ∀ l, fv r l = 0 → (∀ p, p ∈ K → fv p.2 l = 0) → fv (spanL K r) l = 0)
  | [], r, _, _, _, G, _ => ⟨.gen (.inr rfl), .gen (.inr rfl), fun _ h => (nomatch h), fun l h _ => h⟩
  | p :: K, r, hK, hl, hp, G, hG => by
    obtain ⟨pl, pz⟩ := hK p List.mem_cons_self
    rw [List.pairwise_cons] at hp
    obtain ⟨t, a, b, ht, ha, e, ez⟩ := lclr_mul (r := r) (k := p.1) (o := p.2) (by rw [hl, pl]) pz
    obtain ⟨h1, h2, h3, h4⟩ := spanL_sp K (lclr r p.1 p.2) (fun q hq => hK q (List.mem_cons_of_mem _ hq)) (by rw [lclr_len (by rw [hl, pl])]; exact hl) hp.2 G fun q hq => hG q (List.mem_cons_of_mem _ hq)
    refine ⟨h1.sub fun v hv => ?_, h2 |> fun h2 => ?_, fun q hq => ?_, fun l hl0 hz => ?_⟩
    · rcases hv with hv | rfl
      · exact .gen (.inl hv)
      · exact .div ht ((Sp.lin a b (.gen (.inr rfl)) (.gen (.inl (hG p List.mem_cons_self)))).congr fun j => (e j).symm)
    · refine .div ha ((Sp.lin t (-b) h2 (.gen (.inl (hG p List.mem_cons_self)))).congr fun j => ?_)
      show t * fv (lclr r p.1 p.2) j + -b * fv p.2 j = a * fv r j
      rw [e j, Int.neg_mul]; omega
    · rcases List.mem_cons.mp hq with rfl | hq
      · exact h4 _ ez fun x hx => hp.1 x hx
      · exact h3 q hq
    · refine h4 l ?_ fun q hq => hz q (List.mem_cons_of_mem _ hq)
      have := e l
      rw [hl0, hz p List.mem_cons_self, Int.mul_zero, Int.mul_zero] at this
      exact (Int.mul_eq_zero.mp (show t * _ = 0 by rw [this]; rfl)).resolve_left ht
/-- what lies in the span of a form is cleared to nought by it -/
theorem spanL_zero {rows : List (List Int)} {w : Nat} {FP : List (List Int × Nat)} (hF : FrmOf rows w FP) {r : List Int} (hl : r.length = w) (hr : Sp (RW rows) (fv r)) : ∀ j, fv (spanL (FP.map fun p => (p.2, p.1)) r) j = 0 := by
  have off := hF.frm.red.off
  unfold prF at off
  rw [List.pairwise_map] at off
  obtain ⟨h1, _, h3, _⟩ := spanL_sp (FP.map fun p => (p.2, p.1)) r (fun p hp => by
    obtain ⟨a, ha, rfl⟩ := List.mem_map.mp hp
    exact ⟨hF.len a ha, hF.frm.red.ne _ (mem_prF ha)⟩) hl (by
    rw [List.pairwise_map]
    exact off.imp fun {a b} h => h.2) (fun v => Sp (InF (prF FP)) v) fun p hp => by
    obtain ⟨a, ha, rfl⟩ := List.mem_map.mp hp
    exact .gen ⟨_, mem_prF ha, rfl⟩
  have inF : ∀ v, Sp (RW rows) v → Sp (InF (prF FP)) v := fun v hv => hv.sub fun u ⟨a, ha, e⟩ => by rw [e]; exact hF.to a ha
  refine hF.frm.red.zero (h1.sub fun v hv => ?_) fun p hp => ?_
  · rcases hv with hv | rfl
    · exact hv
    · exact inF _ hr
  · obtain ⟨a, ha, rfl⟩ := prF_mem hp
    exact h3 (a.2, a.1) (List.mem_map.mpr ⟨a, ha, rfl⟩)
def echS (K : List (Nat × List Int)) (r : List Int) : List (Nat × List Int) := if leadL (spanL K r) < (spanL K r).length then K ++ [(leadL (spanL K r), primL (spanL K r))] else K
def echL : List (List Int) → List (Nat × List Int) → List (Nat × List Int)
  | [], K => K
  | r :: l, K => echL l (echS K r)
structure EInv (S : Vc → Prop) (w : Nat) (done : Vc → Prop) (K : List (Nat × List Int)) (n : Nat) (s : Nat → Vc) (F : List (Vc × Nat)) : Prop where
  bas : Bas S n s F
  len : ∀ p, p ∈ K → p.2.length = w ∧ fv p.2 p.1 ≠ 0 ∧ Prim (fv p.2)
  pw : K.Pairwise fun p q => fv q.2 p.1 = 0
  pl : F.map (·.2) = K.map (·.1)
  kf : ∀ p, p ∈ K → Sp (InF F) (fv p.2)
  fk : ∀ v, InF F v → Sp (fun u => ∃ p, p ∈ K ∧ u = fv p.2) v
  sup : ∀ p, p ∈ F → ∀ j, w ≤ j → p.1 j = 0
  to : ∀ v, done v → Sp (InF F) v
  few : K.length = n
/-- the places below w -/
theorem few_of {F : List (Vc × Nat)} {w : Nat} (h : Red F) (hs : ∀ p, p ∈ F → ∀ j, w ≤ j → p.1 j = 0) : F.length ≤ w := by
  let G : List (Vc × Nat) := (List.range w).map fun i => (fun j => if j = i then 1 else 0, i)
  have hG : Red G := ⟨by
    rw [List.pairwise_map]
    refine List.pairwise_lt_range.imp fun {a b} hab => ?_
    exact ⟨if_neg (by omega), if_neg (by omega)⟩, fun p hp => by
    obtain ⟨i, _, rfl⟩ := List.mem_map.mp hp
    show (if i = i then (1 : Int) else 0) ≠ 0
    rw [if_pos rfl]; decide⟩
  have := rank_le h hG fun p hp => by
    have e : ∀ m, m ≤ w → Sp (InF G) fun j => if j < m then p.1 j else 0 := by
      intro m
      induction m with
      | zero => exact fun _ => Sp.zero.congr fun j => by rw [if_neg (Nat.not_lt_zero _)]
      | succ m ih =>
        intro hm
        refine (Sp.lin 1 (p.1 m) (ih (by omega)) (.gen ⟨(fun j => if j = m then 1 else 0, m), List.mem_map.mpr ⟨m, List.mem_range.mpr (by omega), rfl⟩, rfl⟩)).congr fun j => ?_
        show 1 * (if j < m then p.1 j else 0) + p.1 m * (if j = m then 1 else 0) = if j < m + 1 then p.1 j else 0
        by_cases h1 : j < m
        · rw [if_pos h1, if_neg (by omega), if_pos (by omega), Int.mul_zero]; omega
        · by_cases h2 : j = m
          · rw [if_neg h1, if_pos h2, if_pos (by omega), h2]; omega
          · rw [if_neg h1, if_neg h2, if_neg (by omega), Int.mul_zero, Int.mul_zero]; rfl
    refine (e w (Nat.le_refl _)).congr fun j => ?_
    by_cases h1 : j < w
    · exact if_pos h1
    · rw [if_neg h1, hs p hp j (by omega)]
  have gl : G.length = w := by show (List.map _ _).length = _; rw [List.length_map, List.length_range]
  omega
theorem sp_sup {G : Vc → Prop} {w : Nat} (h : ∀ v, G v → ∀ j, w ≤ j → v j = 0) {v : Vc} (k : Sp G v) : ∀ j, w ≤ j → v j = 0 := by
  induction k with
  | zero => exact fun _ _ => rfl
  | gen g => exact h _ g
  | @lin u v a b _ _ i1 i2 =>
    intro j hj
    show a * u j + b * v j = 0
    rw [i1 j hj, i2 j hj, Int.mul_zero, Int.mul_zero]; rfl
  | div t _ i => exact fun j hj => (Int.mul_eq_zero.mp (i j hj)).resolve_left t
section
variable {S done : Vc → Prop} {w n C : Nat} {K : List (Nat × List Int)} {s : Nat → Vc} {F : List (Vc × Nat)} {r : List Int}
theorem EInv.bound (hb : HB w C S) (I : EInv S w done K n s F) : ∀ p, p ∈ K → p.2.length = w ∧ ∀ j, w ≤ j → fv p.2 j = 0 := fun p hp => ⟨(I.len p hp).1, fun j hj => fv_out (by rw [(I.len p hp).1]; exact hj)⟩
theorem einv_step (hb : HB w C S) (I : EInv S w done K n s F) (hl : r.length = w) (hS : S (fv r)) (hsup : ∀ v, S v → ∀ j, w ≤ j → v j = 0) (hK : ∀ p, p ∈ K → ∀ j, (fv p.2 j).natAbs ≤ C) :
    (∃ n' s' F', EInv S w (fun v => done v ∨ v = fv r) (echS K r) n' s' F') ∧ ∀ p, p ∈ echS K r → ∀ j, (fv p.2 j).natAbs ≤ C := by
  obtain ⟨z, hz⟩ : ∃ z, spanL K r = z := ⟨_, rfl⟩
  have zl : z.length = w := by rw [← hz]; exact spanL_len K r (fun p hp => (I.len p hp).1) hl
  obtain ⟨h1, h2, h3, _⟩ := spanL_sp K r (fun p hp => ⟨(I.len p hp).1, (I.len p hp).2.1⟩) hl I.pw (fun v => Sp (InF F) v) I.kf
  rw [hz] at h1 h2 h3
  unfold echS
  rw [hz, zl]
  by_cases hlt : leadL z < w
  · rw [if_pos hlt]
    have zq := leadL_at (r := z) (by omega)
    obtain ⟨q, hq⟩ : ∃ q, leadL z = q := ⟨_, rfl⟩
    rw [hq] at zq hlt ⊢
    obtain ⟨y, hy⟩ : ∃ y, primL z = y := ⟨_, rfl⟩
    rw [hy]
    obtain ⟨t, ht, e⟩ := primL_mul z
    rw [hy] at e
    have yl : y.length = w := by rw [← hy, primL_len, zl]
    have yq : fv y q ≠ 0 := fun k => zq (by rw [e q, k, Int.mul_zero])
    have yp : Prim (fv y) := by
      have := primL_prim z
      rw [hy] at this
      exact this.resolve_left fun k => yq (k q)
    have yz : Sp (fun v => v = fv z) (fv y) := .div (show t ≠ 0 by omega) ((Sp.gen (G := fun v => v = fv z) rfl).congr e)
    have zy : Sp (fun v => v = fv y) (fv z) := ((Sp.gen (G := fun v => v = fv y) rfl).smul t).congr fun j => (e j).symm
    have van : ∀ p, p ∈ F → fv y p.2 = 0 := fun p hp => by
      have : p.2 ∈ K.map (·.1) := by rw [← I.pl]; exact List.mem_map.mpr ⟨p, hp, rfl⟩
      obtain ⟨a, ha, ea⟩ := List.mem_map.mp this
      have k := h3 a ha
      rw [e, ea] at k
      exact (Int.mul_eq_zero.mp k).resolve_left (by omega)
    have toR : Sp (InS (n + 1) (ext n s (fv r))) (fv y) := yz.sub fun v hv => by
      rw [hv]
      refine h1.sub fun u hu => ?_
      rcases hu with hu | rfl
      · exact hu.sub fun x ⟨p, hp, ex⟩ => by rw [ex]; exact (I.bas.ofF p hp).mono fun _ k => k.ext
      · exact .gen ⟨n, by omega, ext_at.symm⟩
    have ofR : Sp (InR F (fv y)) (fv r) := h2.sub fun v hv => by
      rcases hv with hv | rfl
      · exact hv.mono fun _ k => .inl k
      · exact zy.mono fun _ k => .inr k
    have gr := grow_red (r := fv y) (q := q) I.bas.red van yq
    have gsup : ∀ p, p ∈ grow F (fv y) q → ∀ j, w ≤ j → p.1 j = 0 := fun p hp => sp_sup (G := InR F (fv y)) (fun v hv => by
      rcases hv with ⟨a, ha, rfl⟩ | rfl
      · exact I.sup a ha
      · exact fun j hj => fv_out (by omega)) (grow_of p hp)
    have nw : n + 1 ≤ w := by
      have := few_of gr gsup
      rw [grow_len, I.bas.len] at this
      exact this
    have yb := I.bas.leftBound hb nw van yp hS toR ofR
    have bas' := I.bas.add (F' := grow F (fv y) q) van yq hS toR ofR gr (by rw [grow_len, I.bas.len]) grow_of (grow_to yq)
    refine ⟨⟨n + 1, ext n s (fv r), grow F (fv y) q, bas', fun p hp => ?_, ?_, ?_, fun p hp => ?_, fun v ⟨p, hp, ev⟩ => ?_, gsup, fun v hv => ?_, ?_⟩, fun p hp => ?_⟩
    · rcases List.mem_append.mp hp with k | k
      · exact I.len p k
      · rw [List.mem_singleton.mp k]; exact ⟨yl, yq, yp⟩
    · rw [List.pairwise_append]
      refine ⟨I.pw, List.pairwise_singleton _ _, fun a ha c hc => ?_⟩
      rw [List.mem_singleton.mp hc]
      have k := h3 a ha
      rw [e] at k
      exact (Int.mul_eq_zero.mp k).resolve_left (by omega)
    · unfold grow
      rw [List.map_append, List.map_map, List.map_append, ← I.pl]; rfl
    · rcases List.mem_append.mp hp with k | k
      · exact (I.kf p k).sub fun v hv => grow_to yq v (.inl hv)
      · rw [List.mem_singleton.mp k]; exact grow_to yq _ (.inr rfl)
    · rw [ev]
      refine (grow_of p hp).sub fun u hu => ?_
      rcases hu with hu | rfl
      · exact (I.fk u hu).mono fun x ⟨a, ha, ex⟩ => ⟨a, List.mem_append.mpr (.inl ha), ex⟩
      · exact .gen ⟨(q, y), List.mem_append.mpr (.inr List.mem_cons_self), rfl⟩
    · rcases hv with hv | rfl
      · exact (I.to v hv).sub fun u hu => grow_to yq u (.inl hu)
      · exact ofR.sub (grow_to yq)
    · rw [List.length_append, I.few]; rfl
    · rcases List.mem_append.mp hp with k | k
      · exact hK p k
      · rw [List.mem_singleton.mp k]; exact yb
  · rw [if_neg hlt]
    have z0 : ∀ j, fv z j = 0 := fun j => by
      by_cases k : j < leadL z
      · exact leadL_low z j k
      · exact fv_out (by omega)
    refine ⟨⟨n, s, F, I.bas, I.len, I.pw, I.pl, I.kf, I.fk, I.sup, fun v hv => ?_, I.few⟩, hK⟩
    rcases hv with hv | rfl
    · exact I.to v hv
    · refine h2.sub fun u hu => ?_
      rcases hu with hu | rfl
      · exact hu
      · exact Sp.zero.congr fun j => (z0 j).symm
end
theorem einv_all {S : Vc → Prop} {w C : Nat} (hb : HB w C S) (hsup : ∀ v, S v → ∀ j, w ≤ j → v j = 0) : ∀ (rows : List (List Int)) (done : Vc → Prop) (K : List (Nat × List Int)) (n : Nat) (s : Nat → Vc) (F : List (Vc × Nat)), EInv S w done K n s F → (∀ p, p ∈ K → ∀ j, (fv p.2 j).natAbs ≤ C) → (∀ r, r ∈ rows → r.length = w ∧ S (fv r)) →
    ∃ n s F, EInv S w (fun v => done v ∨ RW rows v) (echL rows K) n s F
  | [], done, K, n, s, F, I, _, _ => ⟨n, s, F, I.bas, I.len, I.pw, I.pl, I.kf, I.fk, I.sup, (fun v hv => hv.elim (I.to v) fun ⟨_, h, _⟩ => nomatch h), I.few⟩
  | r :: l, done, K, n, s, F, I, hK, hr => by
    obtain ⟨h1, h2⟩ := hr r List.mem_cons_self
    obtain ⟨⟨n1, s1, F1, I1⟩, hK1⟩ := einv_step hb I h1 h2 hsup hK
    obtain ⟨n2, s2, F2, I2⟩ := einv_all hb hsup l _ _ n1 s1 F1 I1 hK1 fun a ha => hr a (List.mem_cons_of_mem _ ha)
    refine ⟨n2, s2, F2, I2.bas, I2.len, I2.pw, I2.pl, I2.kf, I2.fk, I2.sup, fun v hv => I2.to v ?_, I2.few⟩
    rcases hv with hv | ⟨a, ha, e⟩
    · exact .inl (.inl hv)
    · rcases List.mem_cons.mp ha with rfl | ha
      · exact .inl (.inr e)
      · exact .inr ⟨a, ha, e⟩
theorem einv_nil {S : Vc → Prop} {w : Nat} : EInv S w (fun _ => False) [] 0 (fun _ _ => 0) [] := ⟨.nil, fun _ h => (nomatch h), .nil, rfl, fun _ h => (nomatch h), fun v ⟨_, h, _⟩ => (nomatch h), fun _ h => (nomatch h), fun _ h => h.elim, rfl⟩
/-- all kept rows on the way are small -/
theorem ech_bound {S : Vc → Prop} {w C : Nat} (hb : HB w C S) (hsup : ∀ v, S v → ∀ j, w ≤ j → v j = 0) : ∀ (rows : List (List Int)) (done : Vc → Prop) (K : List (Nat × List Int)) (n : Nat) (s : Nat → Vc) (F : List (Vc × Nat)), EInv S w done K n s F → (∀ p, p ∈ K → ∀ j, (fv p.2 j).natAbs ≤ C) → (∀ r, r ∈ rows → r.length = w ∧ S (fv r)) →
    (∀ p, p ∈ echL rows K → p.2.length = w ∧ p.1 < w ∧ ∀ j, (fv p.2 j).natAbs ≤ C) ∧ (echL rows K).length ≤ w
  | [], done, K, n, s, F, I, hK, _ => ⟨fun p hp => ⟨(I.len p hp).1, by
    have h := (I.len p hp).2.1
    have l := (I.len p hp).1
    by_cases z : p.1 < w
    · exact z
    · exact absurd (fv_out (by omega)) h, hK p hp⟩, by
    show K.length ≤ w
    rw [I.few, ← I.bas.len]
    exact few_of I.bas.red I.sup⟩
  | r :: l, done, K, n, s, F, I, hK, hr => by
    obtain ⟨h1, h2⟩ := hr r List.mem_cons_self
    obtain ⟨⟨n1, s1, F1, I1⟩, hK1⟩ := einv_step hb I h1 h2 hsup hK
    exact ech_bound hb hsup l _ _ n1 s1 F1 I1 hK1 fun a ha => hr a (List.mem_cons_of_mem _ ha)
theorem ech_len {rows : List (List Int)} {w C : Nat} (hl : ∀ r, r ∈ rows → r.length = w) (hb : HB w C (RW rows)) {FP : List (List Int × Nat)} (hF : FrmOf rows w FP) : (echL rows []).length = FP.length ∧ (echL rows []).length ≤ w := by
  obtain ⟨n, s, F, I⟩ := einv_all hb (fun v ⟨r, hr, e⟩ j hj => by rw [e]; exact fv_out (by rw [hl r hr]; exact hj)) rows _ [] _ _ _ einv_nil (fun _ h => nomatch h) fun r hr => ⟨hl r hr, r, hr, rfl⟩
  have e1 : F.length ≤ (prF FP).length := rank_le I.bas.red hF.frm.red fun p hp => (I.bas.ofF p hp).sub fun u ⟨i, hi, e⟩ => by
    obtain ⟨r, hr, z⟩ := I.bas.inS i hi
    rw [e, z]; exact hF.to r hr
  have e2 : (prF FP).length ≤ F.length := rank_le hF.frm.red I.bas.red fun p hp => (hF.of p.1 ⟨p, hp, rfl⟩).sub fun u hu => I.to u (.inr hu)
  have e3 := I.bas.len
  have e4 := I.few
  have e5 := few_of I.bas.red I.sup
  unfold prF at e1 e2
  rw [List.length_map] at e1 e2
  omega
end LV
set_option maxHeartbeats 1000000
namespace LV
open PySem PySem.Spec L2
def S__law_divisor : FSpec := fun args Q _ => ∃ (X : D) (r : List Int), args = [.fz X] ∧ SqD X r ∧ Q (.fz (.int (gfold 0 r : Nat))) args
theorem mS__law_divisor : MonoF S__law_divisor := ⟨fun h _ ⟨a, b, c, d, q⟩ => ⟨a, b, c, d, h _ _ q⟩⟩
def divB : SW := (wSeq (wSet 3 (wBlt gAbs (wCons (wVar 2) wNil)))
  (wWhile (wB (wOp2 gGt (wVar 3) (wC (.int 0))))
  (wSeq (wSet 4 (wOp2 gMod (wBlt gInt1 (wCons (wVar 1) wNil)) (wVar 3)))
  (wSeq (wSet 1 (wVar 3))
  (wSet 3 (wVar 4))))))
theorem lp_div {X : D} {K : Ks} : ∀ (l : List Int) (g : Nat) (v2 v3 v4 : Option Val), (∀ v2 v3 v4, K.nx [some (.fz X), some (.fz (.int (gfold g l : Nat))), v2, v3, v4]) →
    loopW (.n 2) divB yesK K (l.map D.int) [some (.fz X), some (.fz (.int (g : Int))), v2, v3, v4]
  | [], g, v2, v3, v4, h => ⟨True.intro, h _ _ _⟩
  | x :: l, g, v2, v3, v4, h => by
    refine ⟨True.intro, _, rfl, ?_⟩
    show divB _ [some (.fz X), some (.fz (.int (g : Int))), some (.fz (.int x)), v3, v4]
    unfold divB
    refine seq_k fun K1 hn1 _ _ _ _ => run_set (ev_abs (vx 2 rfl)) (hn1 _ ?_)
    show wWhile _ _ _ [some (.fz X), some (.fz (.int (g : Int))), some (.fz (.int x)), some (.fz (.int (x.natAbs : Nat))), v4]
    refine while_k (fun m e => ∃ (f r : Nat) (v4 : Option Val), e = [some (.fz X), some (.fz (.int (f : Int))), some (.fz (.int x)), some (.fz (.int (r : Int))), v4] ∧ Nat.gcd f r = Nat.gcd g x.natAbs ∧ m = r) x.natAbs ⟨g, x.natAbs, v4, rfl, rfl, rfl⟩ fun m e ⟨f, r, v4, he, hg, hm⟩ => ?_
    subst he hm
    by_cases hr : m = 0
    · refine (evt_B (k := false) (ev_gti (env := [some (.fz X), some (.fz (.int (f : Int))), some (.fz (.int x)), some (.fz (.int (m : Int))), v4]) (vx 3 rfl) cx (decide_eq_false (by omega)))).go ?_
      rw [if_neg Bool.false_ne_true]
      rw [hr, Nat.gcd_zero_right] at hg
      have := lp_div l (Int.gcd g x) (some (.fz (.int x))) (some (.fz (.int (m : Int)))) v4 h
      rw [show Int.gcd g x = f from hg.symm] at this
      exact this
    · refine (evt_B (k := true) (ev_gti (env := [some (.fz X), some (.fz (.int (f : Int))), some (.fz (.int x)), some (.fz (.int (m : Int))), v4]) (vx 3 rfl) cx (decide_eq_true (by omega)))).go ?_
      rw [if_pos rfl]
      have e : ((f : Int)).fmod (m : Int) = ((f % m : Nat) : Int) := by
        rw [Int.fmod_eq_emod_of_nonneg _ (by omega)]; omega
      have md := ev_mod (env := [some (.fz X), some (.fz (.int (f : Int))), some (.fz (.int x)), some (.fz (.int (m : Int))), v4]) (ev_int1 (vx 1 rfl)).fz (vx 3 rfl) (show (m : Int) ≠ 0 by omega)
      rw [e] at md
      refine seq_k fun K2 hn2 _ _ _ _ => run_set md (hn2 _ ?_)
      refine seq_k fun K3 hn3 _ _ _ _ => run_set (d := .int (m : Int)) (ev_var rfl) (hn3 _ ?_)
      refine run_set (d := .int ((f % m : Nat) : Int)) (ev_var rfl) ?_
      refine ⟨f % m, Nat.mod_lt _ (by omega), m, f % m, _, rfl, ?_, rfl⟩
      rw [← hg, Nat.gcd_comm m, ← Nat.gcd_rec, Nat.gcd_comm]
theorem kp__law_divisor : Keeps S__law_divisor [] 1 5 w__law_divisor where
  fit := fun args Q E ⟨_, _, a, _⟩ => a ▸ fit1
  run := fun args Q E ⟨X, r, e, hX, q⟩ => by
    subst e
    unfold w__law_divisor
    change wSeq _ _ _ [some (.fz X), none, none, none, none]
    refine seq_k fun K1 hn1 _ _ _ _ => run_set (d := .int 0) ev_c (hn1 _ ?_)
    change wSeq _ _ _ [some (.fz X), some (.fz (.int ((0 : Nat) : Int))), none, none, none]
    refine seq_k fun K2 hn2 _ _ _ _ => run_forI (ev_var rfl) hX (lp_div r 0 none none none fun v2 v3 v4 => hn2 _ ?_)
    exact run_ret (d := .int (gfold 0 r : Nat)) (ev_var rfl) ⟨_, rfl, q⟩
theorem ev_divisor {env e1 : En} {w : EW} {X : D} {r : List Int} (h : Ev env w X e1) (hX : SqD X r) : EvR env (wCall S__law_divisor (wCons w wNil)) (.fz (.int (gfold 0 r : Nat))) e1 :=
  ev_call (S := S__law_divisor) (ds := [X]) (evl_cons h evl_nil) (fun q => ⟨X, r, rfl, hX, q⟩) fun i z => by cases z
def S__law_primitive : FSpec := fun args Q _ => ∃ (X : D) (r : List Int), args = [.fz X] ∧ SqD X r ∧ r.length ≤ 900 ∧ (∀ x, x ∈ r → x.natAbs < 2 ^ 8999) ∧ Q (.ow (.lst ((primL r).map D.int))) args
theorem mS__law_primitive : MonoF S__law_primitive := ⟨fun h _ ⟨a, b, c, d, e, f, q⟩ => ⟨a, b, c, d, e, f, h _ _ q⟩⟩
theorem ev_listS {env e1 : En} {w : EW} {X : D} {r : List Int} (h : Ev env w X e1) (hX : SqD X r) : EvR env (wBlt gList (wCons w wNil)) (.ow (.lst (r.map D.int))) e1 := by
  rcases hX with rfl | rfl
  · exact ev_blt (evl_cons h evl_nil) fun Q' q => q
  · exact ev_blt (evl_cons h evl_nil) fun Q' q => q
theorem kp__law_primitive : Keeps S__law_primitive [] 1 3 (w__law_primitive S__law_divisor) where
  fit := fun args Q E ⟨_, _, a, _⟩ => a ▸ fit1
  run := fun args Q E ⟨X, r, e, hX, hl, hb, q⟩ => by
    subst e
    unfold w__law_primitive
    change wSeq _ _ _ [some (.fz X), none, none]
    refine seq_k fun K1 hn1 _ _ _ _ => run_set (ev_divisor (fx 0 rfl) hX) (hn1 _ ?_)
    change wSeq _ _ _ [some (.fz X), some (.fz (.int (gfold 0 r : Nat))), none]
    by_cases h2 : gfold 0 r < 2
    · refine sk_t (evt_B (k := true) (ev_lti (vx 1 rfl) cx (decide_eq_true (by omega)))) fun K' hr _ => run_retO (ev_listS (vx 0 rfl) hX) ?_
      rw [hr]
      have e : primL r = r := by unfold primL; rw [if_pos h2]
      rw [e] at q
      exact ⟨_, rfl, q⟩
    · refine sk_f (evt_B (k := false) (ev_lti (vx 1 rfl) cx (decide_eq_false (by omega)))) ?_
      have gb : gfold 0 r < 2 ^ 8999 := gfold_lt hb (Nat.pow_pos (by decide))
      have lc := lc_mapL (env := [some (.fz X), some (.fz (.int (gfold 0 r : Nat))), none]) (e1 := [some (.fz X), some (.fz (.int (gfold 0 r : Nat))), none]) (i := 2) (pn := []) (wa := wVar 0) (w := wOp2 gDiv (wVar 2) (wVar 1)) (g := D.int) (f := fun x : Int => D.int (x.fdiv (gfold 0 r : Int))) (xs := r) (d := X) (ev_var rfl) hX.items (fun x hx => (ev_divX (vx 2 rfl) (vx 1 rfl) (cd_ok (by omega) (by simpa using gb))).fz) (by omega)
      have e : (r.map fun x : Int => D.int (x.fdiv (gfold 0 r : Int))) = (primL r).map D.int := by
        unfold primL
        rw [if_neg h2, List.map_map]; rfl
      rw [e] at lc
      exact run_retO lc ⟨_, rfl, q⟩
theorem ev_primitive {env e1 : En} {w : EW} {X : D} {r : List Int} (h : Ev env w X e1) (hX : SqD X r) (hl : r.length ≤ 900) (hb : ∀ x, x ∈ r → x.natAbs < 2 ^ 8999) : EvR env (wCall S__law_primitive (wCons w wNil)) (.ow (.lst ((primL r).map D.int))) e1 :=
  ev_call (S := S__law_primitive) (ds := [X]) (evl_cons h evl_nil) (fun q => ⟨X, r, rfl, hX, hl, hb, q⟩) fun i z => by cases z
def leadI (r : List Int) : Int := if leadL r < r.length then (leadL r : Int) else -1
def S__law_lead : FSpec := fun args Q _ => ∃ (X : D) (r : List Int), args = [.fz X] ∧ SqD X r ∧ r.length ≤ 900 ∧ Q (.fz (.int (leadI r))) args
theorem mS__law_lead : MonoF S__law_lead := ⟨fun h _ ⟨a, b, c, d, e, q⟩ => ⟨a, b, c, d, e, h _ _ q⟩⟩
theorem lp_leadI {X : D} {r : List Int} {K : Ks} (hX : SqD X r) : ∀ (j k : Nat) (v1 : Option Val), k + j = r.length → (∀ i, i < k → fv r i = 0) → (leadL r < r.length → ∀ v1, K.rt (.fz (.int (leadL r : Nat))) [some (.fz X), v1]) → (leadL r = r.length → ∀ v1, K.nx [some (.fz X), v1]) →
    loopW (.n 1) (wIf (wB (wOp2 gNe (wOp2 gIx (wVar 0) (wVar 1)) (wC (.int 0)))) (wRet [] (wVar 1)) wSkip) yesK K (rngD (k : Int) j) [some (.fz X), v1]
  | 0, k, v1, hk, hz, _, h2 => ⟨True.intro, h2 (leadL_none fun i => by
    by_cases z : i < k
    · exact hz i z
    · exact fv_out (by omega)) _⟩
  | j + 1, k, v1, hk, hz, h1, h2 => by
    refine ⟨True.intro, _, rfl, ?_⟩
    show wIf _ _ _ _ [some (.fz X), some (.fz (.int (k : Int)))]
    have t := evt_B (ev_neb' (env := [some (.fz X), some (.fz (.int (k : Int)))]) (ev_ixS hX (vx 0 rfl) (vx 1 rfl) (show k < r.length by omega)).fz (cx (d := .int 0)))
    by_cases z : fv r k ≠ 0
    · rw [decide_eq_true z] at t
      have e := leadL_eq z hz
      refine run_if_t t (run_ret (d := .int (k : Int)) (ev_var rfl) ?_)
      have := h1 (by omega) (some (.fz (.int (k : Int))))
      rw [e] at this
      exact this
    · rw [decide_eq_false z] at t
      refine run_if_f t ?_
      show loopW _ _ yesK K (rngD ((k : Int) + 1) j) _
      rw [show (k : Int) + 1 = ((k + 1 : Nat) : Int) by omega]
      refine lp_leadI hX j (k + 1) _ (by omega) (fun i hi => ?_) h1 h2
      by_cases c : i = k
      · rw [c]; exact Classical.not_not.mp z
      · exact hz i (by omega)
theorem kp__law_lead : Keeps S__law_lead [] 1 2 w__law_lead where
  fit := fun args Q E ⟨_, _, a, _⟩ => a ▸ fit1
  run := fun args Q E ⟨X, r, e, hX, hl, q⟩ => by
    subst e
    unfold w__law_lead
    change wSeq _ _ _ [some (.fz X), none]
    refine seq_k fun K1 hn1 hr1 _ _ _ => run_forR (n := r.length) (evl_cons (ev_lenS hX (vx 0 rfl)).fz evl_nil) (by omega) (lp_leadI hX r.length 0 none (by omega) (fun i h => absurd h (Nat.not_lt_zero _)) (fun h v1 => ?_) fun h v1 => hn1 _ ?_)
    · rw [hr1]
      unfold leadI at q
      rw [if_pos h] at q
      exact ⟨_, rfl, q⟩
    · unfold leadI at q
      rw [if_neg (by omega)] at q
      exact run_ret (d := .int (-1)) ev_neg ⟨_, rfl, q⟩
theorem ev_lead {env e1 : En} {w : EW} {X : D} {r : List Int} (h : Ev env w X e1) (hX : SqD X r) (hl : r.length ≤ 900) : EvR env (wCall S__law_lead (wCons w wNil)) (.fz (.int (leadI r))) e1 :=
  ev_call (S := S__law_lead) (ds := [X]) (evl_cons h evl_nil) (fun q => ⟨X, r, rfl, hX, hl, q⟩) fun i z => by cases z
def S__law_cleared : FSpec := fun args Q _ => ∃ (X Y : D) (r o : List Int) (k : Nat), args = [.fz X, .fz (.int (k : Int)), .fz Y] ∧ SqD X r ∧ SqD Y o ∧ r.length = o.length ∧ k < r.length ∧ r.length ≤ 900 ∧ (∀ j, (fv r j).natAbs < 2 ^ 7000) ∧ (∀ j, (fv o j).natAbs < 2 ^ 1900) ∧ Q (.ow (.lst ((lclr r k o).map D.int))) args
theorem mS__law_cleared : MonoF S__law_cleared := ⟨fun h _ ⟨a, b, c, d, e, f, g, i, j, k, l, m, n, q⟩ => ⟨a, b, c, d, e, f, g, i, j, k, l, m, n, h _ _ q⟩⟩
theorem zip_get : ∀ (f : Int → Int → Int) (r o : List Int), f 0 0 = 0 → r.length = o.length → (List.range r.length).map (fun j => D.int (f (fv r j) (fv o j))) = (List.zipWith f r o).map D.int
  | f, [], [], _, _ => rfl
  | f, x :: r, y :: o, h0, h => by
    rw [List.length_cons, List.range_succ_eq_map, List.map_cons, List.map_map, List.zipWith_cons_cons, List.map_cons, ← zip_get f r o h0 (by simpa using h)]
    rw [show ((fun j => D.int (f (fv (x :: r) j) (fv (y :: o) j))) ∘ Nat.succ) = fun j => D.int (f (fv r j) (fv o j)) from funext fun j => by
      show D.int (f (fv (x :: r) (j + 1)) (fv (y :: o) (j + 1))) = _
      rw [fv_succ, fv_succ]]
    rfl
  | f, [], _ :: _, _, h => by simp at h
  | f, _ :: _, [], _, h => by simp at h
theorem kp__law_cleared : Keeps S__law_cleared [] 3 6 (w__law_cleared S__law_primitive) where
  fit := fun args Q E ⟨_, _, _, _, _, a, _⟩ => a ▸ fit3
  run := fun args Q E ⟨X, Y, r, o, k, e, hX, hY, hl, hk, h9, hr, ho, q⟩ => by
    subst e
    unfold w__law_cleared
    change wSeq _ _ _ [some (.fz X), some (.fz (.int (k : Int))), some (.fz Y), none, none, none]
    have u7 : ∀ {i : Int}, i.natAbs < 2 ^ 7000 → i.natAbs < 2 ^ 8999 := fun h => Nat.lt_of_lt_of_le h (Nat.pow_le_pow_right (by decide) (by decide))
    have u1 : ∀ {i : Int}, i.natAbs < 2 ^ 1900 → i.natAbs < 2 ^ 8999 := fun h => Nat.lt_of_lt_of_le h (Nat.pow_le_pow_right (by decide) (by decide))
    have ir : ∀ {v3 v4 v5}, EvR [some (.fz X), some (.fz (.int (k : Int))), some (.fz Y), v3, v4, v5] (wOp2 gIx (wVar 0) (wVar 1)) (.fz (.int (fv r k))) [some (.fz X), some (.fz (.int (k : Int))), some (.fz Y), v3, v4, v5] := ev_ixS hX (vx 0 rfl) (vx 1 rfl) hk
    have io : ∀ {v3 v4 v5}, EvR [some (.fz X), some (.fz (.int (k : Int))), some (.fz Y), v3, v4, v5] (wOp2 gIx (wVar 2) (wVar 1)) (.fz (.int (fv o k))) [some (.fz X), some (.fz (.int (k : Int))), some (.fz Y), v3, v4, v5] := ev_ixS hY (vx 2 rfl) (vx 1 rfl) (by omega)
    by_cases z : fv r k = 0
    · refine sk_t (evt_B (k := true) (ev_eqi' ir.fz cx (decide_eq_true z))) fun K' hr' _ => run_retO (ev_listS (vx 0 rfl) hX) ?_
      rw [hr']
      have e : lclr r k o = r := by unfold lclr; rw [if_pos z]
      rw [e] at q
      exact ⟨_, rfl, q⟩
    · refine sk_f (evt_B (k := false) (ev_eqi' ir.fz cx (decide_eq_false z))) ?_
      refine seq_k fun K1 hn1 _ _ _ _ => run_set ir (hn1 _ ?_)
      refine seq_k fun K2 hn2 _ _ _ _ => run_set io (hn2 _ ?_)
      change wRet _ _ _ [some (.fz X), some (.fz (.int (k : Int))), some (.fz Y), some (.fz (.int (fv r k))), some (.fz (.int (fv o k))), none]
      have lc := lc_rngL (env := [some (.fz X), some (.fz (.int (k : Int))), some (.fz Y), some (.fz (.int (fv r k))), some (.fz (.int (fv o k))), none]) (e1 := [some (.fz X), some (.fz (.int (k : Int))), some (.fz Y), some (.fz (.int (fv r k))), some (.fz (.int (fv o k))), none]) (i := 5) (n := r.length) (w := wOp2 gSub (wOp2 gMulT (wOp2 gIx (wVar 0) (wVar 5)) (wVar 4)) (wOp2 gMulT (wOp2 gIx (wVar 2) (wVar 5)) (wVar 3))) (f := fun j => D.int (fv r j * fv o k - fv o j * fv r k)) (evl_cons (ev_lenS hX (vx 0 rfl)).fz evl_nil) (by omega) fun j hj => 
        (ev_subi (ev_mulX (ev_ixS hX (vx 0 rfl) (vx 5 rfl) hj).fz (vx 4 rfl) (cm_ok (u7 (hr j)) (u1 (ho k)))).fz (ev_mulX (ev_ixS hY (vx 2 rfl) (vx 5 rfl) (by omega)).fz (vx 3 rfl) (cm_ok (u1 (ho j)) (u7 (hr k)))).fz).fz
      rw [zip_get (fun x y => x * fv o k - y * fv r k) r o (by rw [Int.zero_mul, Int.zero_mul]; rfl) hl] at lc
      have bz : ∀ x, x ∈ List.zipWith (fun x y => x * fv o k - y * fv r k) r o → x.natAbs < 2 ^ 8999 := fun x hx => by
        obtain ⟨j, _, e⟩ := fv_mem hx
        rw [← e, fv_zip (by rw [Int.zero_mul, Int.zero_mul]; rfl) r o j hl]
        have h1 : (fv r j * fv o k).natAbs < 2 ^ 7000 * 2 ^ 1900 := by rw [Int.natAbs_mul]; exact Nat.mul_lt_mul'' (hr j) (ho k)
        have h2 : (fv o j * fv r k).natAbs < 2 ^ 7000 * 2 ^ 1900 := by rw [Int.natAbs_mul, Nat.mul_comm]; exact Nat.mul_lt_mul'' (hr k) (ho j)
        have e : 2 ^ 7000 * 2 ^ 1900 + 2 ^ 7000 * 2 ^ 1900 ≤ 2 ^ 8999 := by
          rw [← Nat.pow_add, ← Nat.two_mul, ← Nat.pow_succ']
          exact Nat.pow_le_pow_right (by decide) (by decide)
        omega
      refine run_retO (ev_primitive (ev_frz lc.ow).fz (sqL _) (by rw [List.length_zipWith]; omega) bz) ⟨_, rfl, ?_⟩
      have e : lclr r k o = primL (List.zipWith (fun x y => x * fv o k - y * fv r k) r o) := by unfold lclr; rw [if_neg z]
      rw [e] at q
      exact q
theorem ev_lclr {env e1 e2 e3 : En} {wa wb wc : EW} {X Y : D} {r o : List Int} {k : Nat} (ha : Ev env wa X e1) (hb : Ev e1 wb (.int (k : Int)) e2) (hc : Ev e2 wc Y e3) (hX : SqD X r) (hY : SqD Y o) (hl : r.length = o.length) (hk : k < r.length) (h9 : r.length ≤ 900) (hr : ∀ j, (fv r j).natAbs < 2 ^ 7000) (ho : ∀ j, (fv o j).natAbs < 2 ^ 1900) : EvR env (wCall S__law_cleared (wCons wa (wCons wb (wCons wc wNil)))) (.ow (.lst ((lclr r k o).map D.int))) e3 :=
  ev_call (S := S__law_cleared) (ds := [X, .int (k : Int), Y]) (evl_cons ha (evl_cons hb (evl_cons hc evl_nil))) (fun q => ⟨X, Y, r, o, k, rfl, hX, hY, hl, hk, h9, hr, ho, q⟩) fun i z => by cases z
end LV
namespace LV
open PySem PySem.Spec L2
section
variable {env e1 : En} {w : EW} {u : TW} {i k : Nat} {xs : List D} {tg : Tg} {body : SW} {K : Ks} {T t : Ty} {o : O}
theorem run_forP (h : env[k]? = some (some (.ow (.lst xs)))) (q : loopW tg body (fun e' => e'[k]? = some (some (.ow (.lst xs)))) K xs env) : wFor tg (wIt [k] (wVar k)) body K env := by
  unfold wFor wIt
  simp only [wVar, h]
  show itR [k] (.sl k) env _
  unfold itR
  dsimp only
  rw [if_pos List.mem_cons_self]
  exact ⟨xs, h, q⟩
theorem lc_fmP (p : D → Bool) (f : D → D) (h : env[k]? = some (some (.ow (.lst xs)))) (hki : k ≠ i)
    (he : ∀ x ∈ xs, EvT ((env.set i none).set i (some (.fz x))) u (p x) ((env.set i none).set i (some (.fz x))) ∧ (p x = true → Ev ((env.set i none).set i (some (.fz x))) w (f x) ((env.set i none).set i (some (.fz x))))) (hl : xs.length < 1000) :
    EvR env (wLc (.n i) (wIt [k] (wVar k)) u w [i]) (.ow (.lst ((xs.filter p).map f))) (env.set i none) := ⟨fun {Q E} q => by
  have sz := sizeLine_eq
  unfold wLc wIt
  simp only [wVar, h]
  show itR [k] (.sl k) env _
  unfold itR
  dsimp only
  rw [if_pos List.mem_cons_self]
  refine ⟨xs, h, ?_⟩
  refine cw_fm p f ?_ xs [] (fun x hx => ⟨_, rfl, ?_, fun G g => (he x hx).1.go g, fun hp G g => ((he x hx).2 hp).go g⟩) (by rw [List.length_nil]; omega) q
  · show (env.set i none)[k]? = _
    rw [List.getElem?_set_ne (Ne.symm hki)]; exact h
  · simp only [wipeE, List.set_set]⟩
theorem evt_yes : EvT env uYes true env := ⟨fun q => q⟩
theorem ev_isiS (h : env[i]? = some (some (.ow o))) (ht : o.d.ty = some t) (hn : ∀ xs, o ≠ .nst xs := by intro _ z; cases z) : EvR env (wIsi T (wVar i)) (.fz (.bl (isaT t T))) env := ⟨fun {Q E} q => by
  unfold wIsi wFz
  simp only [wVar, h]
  refine ⟨o.d, t, ?_, ht, q⟩
  cases o <;> first | exact absurd rfl (hn _) | simp only [Rv.frz, look, h]⟩
theorem ev_isiF {d : D} (h : Ev env w d e1) (ht : d.ty = some t) : EvR env (wIsi T w) (.fz (.bl (isaT t T))) e1 := ⟨fun q => h.go ⟨d, t, rfl, ht, q⟩⟩
end
def S__law_is_integer : FSpec := fun args Q _ => ∃ i : Int, args = [.fz (.int i)] ∧ Q (.fz (.bl true)) args
theorem mS__law_is_integer : MonoF S__law_is_integer := ⟨fun h _ ⟨a, b, q⟩ => ⟨a, b, h _ _ q⟩⟩
theorem kp__law_is_integer : Keeps S__law_is_integer [] 1 1 w__law_is_integer where
  fit := fun args Q E ⟨_, a, _⟩ => a ▸ fit1
  run := fun args Q E ⟨i, a, q⟩ => by
    subst a
    unfold w__law_is_integer
    change wRet _ _ _ [some (.fz (.int i))]
    exact run_ret (ev_and_t (ev_isiF (t := .int) (vx 0 rfl) rfl) (ev_not (k := false) (ev_isiF (t := .int) (vx 0 rfl) rfl))) ⟨_, rfl, q⟩
def S__law_is_row : FSpec := fun args Q _ => ∃ (r : List Int) (w : Nat), args = [.fz (rowD r), .fz (.int (w : Int))] ∧ r.length = w ∧ w ≤ 900 ∧ Q (.fz (.bl true)) args
theorem mS__law_is_row : MonoF S__law_is_row := ⟨fun h _ ⟨a, b, c, d, e, q⟩ => ⟨a, b, c, d, e, h _ _ q⟩⟩
theorem kp__law_is_row : Keeps S__law_is_row [] 2 3 (w__law_is_row S__law_is_integer) where
  fit := fun args Q E ⟨_, _, a, _⟩ => a ▸ fit2
  run := fun args Q E ⟨r, w, a, hl, hw, q⟩ => by
    subst a
    unfold w__law_is_row
    change wSeq _ _ _ [some (.fz (rowD r)), some (.fz (.int (w : Int))), none]
    have ne0 : EvR [some (.fz (rowD r)), some (.fz (.int (w : Int))), none] (wOp2 gNe (wBlt gLen (wCons (wVar 0) wNil)) (wVar 1)) (.fz (.bl false)) [some (.fz (rowD r)), some (.fz (.int (w : Int))), none] := by
      have := ev_neb' (env := [some (.fz (rowD r)), some (.fz (.int (w : Int))), none]) (ev_lenS (sqT r) (vx 0 rfl)).fz (vx (d := .int (w : Int)) 1 rfl)
      rw [decide_eq_false (by omega)] at this
      exact this
    refine sk_f (evt_or_f (evt_not (k := true) (evt_trub (ev_isiF (t := .tup) (vx 0 rfl) rfl))) (evt_B ne0)) ?_
    · have lc := lc_mapL (env := [some (.fz (rowD r)), some (.fz (.int (w : Int))), none]) (e1 := [some (.fz (rowD r)), some (.fz (.int (w : Int))), none]) (i := 2) (pn := []) (wa := wVar 0) (w := wCall S__law_is_integer (wCons (wFrz (wVar 2)) wNil)) (g := D.int) (f := fun _ : Int => D.bl true) (xs := r) (d := rowD r) (ev_var rfl) rfl (fun x hx => (ev_call (S := S__law_is_integer) (ds := [.int x]) (evl_cons (fx 2 rfl) evl_nil) (fun q => ⟨x, rfl, q⟩) fun i z => by cases z).fz) (by omega)
      refine run_ret (ev_blt (g := gAll) (r := .fz (.bl true)) (evl_cons lc.ow evl_nil) fun Q' q => ⟨r.map fun _ => true, ?_, ?_⟩) ⟨_, rfl, q⟩
      · show [D.lst (r.map fun _ => D.bl true)] = _
        rw [List.map_map]; rfl
      · rw [show (r.map fun _ => true).all id = true by rw [List.all_map]; exact List.all_eq_true.mpr fun _ _ => rfl]
        exact q
def ldD (p : List Int × Nat) : D := .tup [.int (p.2 : Int), rowD p.1]
/-- how a pair of a place and a row is kept -/
def PairF (f : Nat × List Int → D) : Prop := ∀ p, ∃ X, f p = .tup [.int (p.1 : Int), X] ∧ SqD X p.2
def S__law_spans : FSpec := fun args Q _ => ∃ (f : Nat × List Int → D) (KL : List (Nat × List Int)) (r : List Int) (w : Nat), args = [.fz (.lst (KL.map f)), .fz (rowD r)] ∧ PairF f ∧ r.length = w ∧ w ≤ 100 ∧ (∀ p, p ∈ KL → p.2.length = w ∧ p.1 < w ∧ ∀ j, (fv p.2 j).natAbs < 2 ^ 1900) ∧
  (∀ m, m ≤ KL.length → ∀ j, (fv (spanL (KL.take m) r) j).natAbs < 2 ^ 7000) ∧ Q (.fz (.bl (decide (leadI (spanL KL r) < 0)))) args
theorem mS__law_spans : MonoF S__law_spans := ⟨fun h _ ⟨a, b, c, d, e, f, g, i, k, l, q⟩ => ⟨a, b, c, d, e, f, g, i, k, l, h _ _ q⟩⟩
def HeldR (r : List Int) (v : Option Val) : Prop := v = some (.fz (.lst (r.map D.int))) ∨ v = some (.ow (.lst (r.map D.int)))
theorem HeldR.fz {r : List Int} {v : Option Val} (h : HeldR r v) (env : Option Val → En) {i : Nat} (hi : ∀ x, (env (some x))[i]? = some (some x)) (hs : ∀ x y, (env x).set i y = env y) : Ev (env v) (wFrz (wVar i)) (.lst (r.map D.int)) (env (some (.fz (.lst (r.map D.int))))) := by
  rcases h with rfl | rfl
  · exact fx i (hi _)
  · have := (ev_frzs (env := env (some (.ow (.lst (r.map D.int))))) (i := i) (o := .lst (r.map D.int)) (hi _)).fz
    rw [hs] at this
    exact this
theorem lp_spans {A B : D} {w : Nat} {K : Ks} {f : Nat × List Int → D} (hf : PairF f) (hw : w ≤ 100) : ∀ (l : List (Nat × List Int)) (r : List Int) (v2 v3 : Option Val), r.length = w → (∀ p, p ∈ l → p.2.length = w ∧ p.1 < w ∧ ∀ j, (fv p.2 j).natAbs < 2 ^ 1900) → (∀ m, m ≤ l.length → ∀ j, (fv (spanL (l.take m) r) j).natAbs < 2 ^ 7000) → HeldR r v2 →
    (∀ v2 v3, HeldR (spanL l r) v2 → K.nx [some (.fz A), some (.fz B), v2, v3]) →
    loopW (.n 3) (wSet 2 (wCall S__law_cleared (wCons (wFrz (wVar 2)) (wCons (wFrz (wOp2 gIx (wVar 3) (wC (.int 0)))) (wCons (wFrz (wOp2 gIx (wVar 3) (wC (.int 1)))) wNil))))) yesK K (l.map f) [some (.fz A), some (.fz B), v2, v3]
  | [], r, v2, v3, _, _, _, h2, hn => ⟨True.intro, hn _ _ h2⟩
  | p :: l, r, v2, v3, hl, hp, hb, h2, hn => by
    obtain ⟨pl, pk, pc⟩ := hp p List.mem_cons_self
    obtain ⟨X, eX, sX⟩ := hf p
    refine ⟨True.intro, _, rfl, ?_⟩
    show wSet _ _ _ [some (.fz A), some (.fz B), v2, some (.fz (f p))]
    rw [eX]
    have f2 : Ev [some (.fz A), some (.fz B), v2, some (.fz (.tup [.int (p.1 : Int), X]))] (wFrz (wVar 2)) (.lst (r.map D.int)) [some (.fz A), some (.fz B), some (.fz (.lst (r.map D.int))), some (.fz (.tup [.int (p.1 : Int), X]))] := by
      rcases h2 with rfl | rfl
      · exact fx 2 rfl
      · exact (ev_frzs (i := 2) (o := .lst (r.map D.int)) rfl).fz
    have i0 : Ev [some (.fz A), some (.fz B), some (.fz (.lst (r.map D.int))), some (.fz (.tup [.int (p.1 : Int), X]))] (wFrz (wOp2 gIx (wVar 3) (wC (.int 0)))) (.int (p.1 : Int)) [some (.fz A), some (.fz B), some (.fz (.lst (r.map D.int))), some (.fz (.tup [.int (p.1 : Int), X]))] := (ev_frz (ev_ixt (ds := [.int (p.1 : Int), X]) 0 (vx 3 rfl) rfl).fz).fz
    have i1 : Ev [some (.fz A), some (.fz B), some (.fz (.lst (r.map D.int))), some (.fz (.tup [.int (p.1 : Int), X]))] (wFrz (wOp2 gIx (wVar 3) (wC (.int 1)))) X [some (.fz A), some (.fz B), some (.fz (.lst (r.map D.int))), some (.fz (.tup [.int (p.1 : Int), X]))] := (ev_frz (ev_ixt (ds := [.int (p.1 : Int), X]) 1 (vx 3 rfl) rfl).fz).fz
    refine run_setO (ev_lclr f2 i0 i1 (sqL r) sX (by rw [hl, pl]) (by omega) (by omega) (hb 0 (Nat.zero_le _)) pc) ?_
    refine lp_spans hf hw l (lclr r p.1 p.2) _ _ (by rw [lclr_len (by rw [hl, pl])]; exact hl) (fun q hq => hp q (List.mem_cons_of_mem _ hq)) (fun m hm => ?_) (.inr rfl) hn
    exact hb (m + 1) (by rw [List.length_cons]; omega)
theorem kp__law_spans : Keeps S__law_spans [] 2 4 (w__law_spans S__law_cleared S__law_lead) where
  fit := fun args Q E ⟨_, _, _, _, a, _⟩ => a ▸ fit2
  run := fun args Q E ⟨f, KL, r, w, a, hf, hl, hw, hp, hb, q⟩ => by
    subst a
    unfold w__law_spans
    obtain ⟨A, hA⟩ : ∃ A, D.lst (KL.map f) = A := ⟨_, rfl⟩
    rw [hA] at q ⊢
    change wSeq _ _ _ [some (.fz A), some (.fz (rowD r)), none, none]
    refine seq_k fun K1 hn1 _ _ _ _ => run_setO (ev_listS (vx 1 rfl) (sqT r)) (hn1 _ ?_)
    change wSeq _ _ _ [some (.fz A), some (.fz (rowD r)), some (.ow (.lst (r.map D.int))), none]
    refine seq_k fun K2 hn2 _ _ _ _ => run_forD (d := A) (ev_var rfl) (by rw [← hA]; rfl) (lp_spans hf hw KL r _ _ hl hp hb (.inr rfl) fun v2 v3 h2 => hn2 _ ?_)
    have f2 := h2.fz (fun v => [some (.fz A), some (.fz (rowD r)), v, v3]) (i := 2) (fun _ => rfl) fun _ _ => rfl
    have sl : (spanL KL r).length = w := spanL_len _ _ (fun p hp' => (hp p hp').1) hl
    exact run_ret (ev_lti (ev_lead f2 (sqL _) (by omega)).fz cx rfl) ⟨_, rfl, q⟩
def keD (p : Nat × List Int) : D := .tup [.int (p.1 : Int), .lst (p.2.map D.int)]
/-- all that is kept on the way, and all rests -/
def EchOk (rows : List (List Int)) (w : Nat) : Prop := ∀ A r B, rows = A ++ r :: B → r.length = w ∧ (∀ p, p ∈ echL A [] → p.2.length = w ∧ p.1 < w ∧ ∀ j, (fv p.2 j).natAbs < 2 ^ 1900) ∧ (echL A []).length ≤ 100 ∧ ∀ m, m ≤ (echL A []).length → ∀ j, (fv (spanL ((echL A []).take m) r) j).natAbs < 2 ^ 7000
def S__law_echelon : FSpec := fun args Q _ => ∃ (rows : List (List Int)) (w : Nat), args = [.fz (.lst (rows.map rowD))] ∧ w ≤ 100 ∧ EchOk rows w ∧ Q (.ow (.lst ((echL rows []).map keD))) args
theorem mS__law_echelon : MonoF S__law_echelon := ⟨fun h _ ⟨a, b, c, d, e, q⟩ => ⟨a, b, c, d, e, h _ _ q⟩⟩
theorem echL_app : ∀ (A : List (List Int)) (r : List Int) (K : List (Nat × List Int)), echL (A ++ [r]) K = echS (echL A K) r
  | [], r, K => rfl
  | a :: A, r, K => echL_app A r _
abbrev E5e (A : D) (K : List (Nat × List Int)) (v2 v3 v4 : Option Val) : En := [some (.fz A), some (.ow (.lst (K.map keD))), v2, v3, v4]
theorem lp_in {A : D} {w : Nat} {KL : List (Nat × List Int)} {K : Ks} {v2 : Option Val} (hw : w ≤ 100) : ∀ (l : List (Nat × List Int)) (r : List Int) (v3 v4 : Option Val), r.length = w → (∀ p, p ∈ l → p.2.length = w ∧ p.1 < w ∧ ∀ j, (fv p.2 j).natAbs < 2 ^ 1900) → (∀ m, m ≤ l.length → ∀ j, (fv (spanL (l.take m) r) j).natAbs < 2 ^ 7000) → HeldR r v3 →
    (∀ v3 v4, HeldR (spanL l r) v3 → K.nx (E5e A KL v2 v3 v4)) →
    loopW (.n 4) (wSet 3 (wCall S__law_cleared (wCons (wFrz (wVar 3)) (wCons (wFrz (wOp2 gIx (wVar 4) (wC (.int 0)))) (wCons (wFrz (wOp2 gIx (wVar 4) (wC (.int 1)))) wNil))))) (fun e' => e'[1]? = some (some (.ow (.lst (KL.map keD))))) K (l.map keD) (E5e A KL v2 v3 v4)
  | [], r, v3, v4, _, _, _, h2, hn => ⟨rfl, hn _ _ h2⟩
  | p :: l, r, v3, v4, hl, hp, hb, h2, hn => by
    obtain ⟨pl, pk, pc⟩ := hp p List.mem_cons_self
    refine ⟨rfl, _, rfl, ?_⟩
    show wSet _ _ _ (E5e A KL v2 v3 (some (.fz (keD p))))
    have f2 : Ev (E5e A KL v2 v3 (some (.fz (keD p)))) (wFrz (wVar 3)) (.lst (r.map D.int)) (E5e A KL v2 (some (.fz (.lst (r.map D.int)))) (some (.fz (keD p)))) := by
      rcases h2 with rfl | rfl
      · exact fx 3 rfl
      · exact (ev_frzs (i := 3) (o := .lst (r.map D.int)) rfl).fz
    have i0 : Ev (E5e A KL v2 (some (.fz (.lst (r.map D.int)))) (some (.fz (keD p)))) (wFrz (wOp2 gIx (wVar 4) (wC (.int 0)))) (.int (p.1 : Int)) (E5e A KL v2 (some (.fz (.lst (r.map D.int)))) (some (.fz (keD p)))) := (ev_frz (ev_ixt (ds := [.int (p.1 : Int), .lst (p.2.map D.int)]) 0 (vx 4 rfl) rfl).fz).fz
    have i1 : Ev (E5e A KL v2 (some (.fz (.lst (r.map D.int)))) (some (.fz (keD p)))) (wFrz (wOp2 gIx (wVar 4) (wC (.int 1)))) (.lst (p.2.map D.int)) (E5e A KL v2 (some (.fz (.lst (r.map D.int)))) (some (.fz (keD p)))) := (ev_frz (ev_ixt (ds := [.int (p.1 : Int), .lst (p.2.map D.int)]) 1 (vx 4 rfl) rfl).fz).fz
    refine run_setO (ev_lclr f2 i0 i1 (sqL r) (sqL p.2) (by rw [hl, pl]) (by omega) (by omega) (hb 0 (Nat.zero_le _)) pc) ?_
    refine lp_in hw l (lclr r p.1 p.2) _ _ (by rw [lclr_len (by rw [hl, pl])]; exact hl) (fun q hq => hp q (List.mem_cons_of_mem _ hq)) (fun m hm => ?_) (.inr rfl) hn
    exact hb (m + 1) (by rw [List.length_cons]; omega)
def echB : SW := (wSeq (wSet 3 (wBlt gList (wCons (wVar 2) wNil)))
  (wSeq (wPinS 1 (wFor (.n 4) (wIt [1] (wVar 1))
  (wSet 3 (wCall S__law_cleared (wCons (wFrz (wVar 3)) (wCons (wFrz (wOp2 gIx (wVar 4) (wC (.int 0)))) (wCons (wFrz (wOp2 gIx (wVar 4) (wC (.int 1)))) wNil)))))))
  (wIf (wB (wOp2 gGe (wCall S__law_lead (wCons (wFrz (wVar 3)) wNil)) (wC (.int 0))))
  (wApp 1 (wTup (wCons (wCall S__law_lead (wCons (wFrz (wVar 3)) wNil)) (wCons (wCall S__law_primitive (wCons (wFrz (wVar 3)) wNil)) wNil))))
  wSkip)))
theorem lp_ech {X : D} {rows : List (List Int)} {w : Nat} {K : Ks} (hw : w ≤ 100) (ok : EchOk rows w) (hn : ∀ v2 v3 v4, K.nx (E5e X (echL rows []) v2 v3 v4)) : ∀ (l A : List (List Int)) (v2 v3 v4 : Option Val), rows = A ++ l → loopW (.n 2) echB yesK K (l.map rowD) (E5e X (echL A []) v2 v3 v4)
  | [], A, v2, v3, v4, h => ⟨True.intro, by rw [List.append_nil] at h; rw [← h]; exact hn _ _ _⟩
  | r :: l, A, v2, v3, v4, h => by
    obtain ⟨rl, kb, kl, rb⟩ := ok A r l h
    refine ⟨True.intro, _, rfl, ?_⟩
    show echB _ (E5e X (echL A []) (some (.fz (rowD r))) v3 v4)
    have go := lp_ech hw ok hn l (A ++ [r])
    rw [echL_app] at go
    have go := fun v2 v3 v4 => go v2 v3 v4 (by rw [h, List.append_assoc]; rfl)
    generalize hE : echL A [] = KL at kb kl rb go ⊢
    unfold echB
    refine seq_k fun K1 hn1 _ _ _ _ => run_setO (ev_listS (vx 2 rfl) (sqT r)) (hn1 _ ?_)
    refine seq_k fun K2 hn2 _ _ _ _ => ⟨⟨_, rfl⟩, run_forP rfl (lp_in hw KL r _ _ rl kb rb (.inr rfl) fun v3 v4 h3 => hn2 _ ?_)⟩
    have sl : (spanL KL r).length = w := spanL_len _ _ (fun p hp => (kb p hp).1) rl
    have bz : ∀ x, x ∈ spanL KL r → x.natAbs < 2 ^ 8999 := fun x hx => by
      obtain ⟨j, _, e⟩ := fv_mem hx
      have := rb KL.length (Nat.le_refl _) j
      rw [List.take_length] at this
      rw [← e]
      exact Nat.lt_of_lt_of_le this (Nat.pow_le_pow_right (by decide) (by decide))
    have f3 : ∀ v3, HeldR (spanL KL r) v3 → Ev (E5e X KL (some (.fz (rowD r))) v3 v4) (wFrz (wVar 3)) (.lst ((spanL KL r).map D.int)) (E5e X KL (some (.fz (rowD r))) (some (.fz (.lst ((spanL KL r).map D.int)))) v4) := fun v3 h3 => by
      rcases h3 with rfl | rfl
      · exact fx 3 rfl
      · exact (ev_frzs (i := 3) (o := .lst ((spanL KL r).map D.int)) rfl).fz
    have ld : ∀ v3, HeldR (spanL KL r) v3 → EvR (E5e X KL (some (.fz (rowD r))) v3 v4) (wCall S__law_lead (wCons (wFrz (wVar 3)) wNil)) (.fz (.int (leadI (spanL KL r)))) (E5e X KL (some (.fz (rowD r))) (some (.fz (.lst ((spanL KL r).map D.int)))) v4) := fun v3 h3 => ev_lead (f3 v3 h3) (sqL _) (by omega)
    by_cases z : leadL (spanL KL r) < (spanL KL r).length
    · have el : leadI (spanL KL r) = (leadL (spanL KL r) : Int) := by unfold leadI; rw [if_pos z]
      have es : echS KL r = KL ++ [(leadL (spanL KL r), primL (spanL KL r))] := by unfold echS; rw [if_pos z]
      rw [es] at go
      refine run_if_t (evt_B (k := true) (ev_gei (ld v3 h3).fz cx (decide_eq_true (by omega)))) ?_
      have tp := ev_tup (ds := [.int (leadI (spanL KL r)), .lst ((primL (spanL KL r)).map D.int)]) (evl_cons (ld _ (.inl rfl)).fz (evl_cons (ev_primitive (f3 _ (.inl rfl)) (sqL _) (by omega) bz).ow evl_nil)) (by have := sizeLine_eq; show 2 ≤ _; omega)
      refine app_d (ds := KL.map keD) tp.fz rfl (by rw [List.length_map]; omega) ?_
      have e : KL.map keD ++ [D.tup [.int (leadI (spanL KL r)), .lst ((primL (spanL KL r)).map D.int)]] = (KL ++ [(leadL (spanL KL r), primL (spanL KL r))]).map keD := by
        rw [List.map_append, el]; rfl
      rw [e]
      exact go _ _ _
    · have es : echS KL r = KL := by unfold echS; rw [if_neg z]
      rw [es] at go
      refine run_if_f (evt_B (k := false) (ev_gei (ld v3 h3).fz cx (decide_eq_false (by unfold leadI; rw [if_neg z]; decide)))) ?_
      exact go _ _ _
theorem kp__law_echelon : Keeps S__law_echelon [] 1 5 (w__law_echelon S__law_cleared S__law_lead S__law_primitive) where
  fit := fun args Q E ⟨_, _, a, _⟩ => a ▸ fit1
  run := fun args Q E ⟨rows, w, a, hw, ok, q⟩ => by
    subst a
    unfold w__law_echelon
    obtain ⟨A, hA⟩ : ∃ A, D.lst (rows.map rowD) = A := ⟨_, rfl⟩
    rw [hA] at q ⊢
    change wSeq _ _ _ [some (.fz A), none, none, none, none]
    refine seq_k fun K1 hn1 _ _ _ _ => run_setO (ev_lst (ds := []) evl_nil (Nat.zero_le _)) (hn1 _ ?_)
    change wSeq _ _ _ (E5e A (echL [] []) none none none)
    refine seq_k fun K2 hn2 _ _ _ _ => run_forD (d := A) (ev_var rfl) (by rw [← hA]; rfl) (lp_ech hw ok (fun v2 v3 v4 => hn2 _ ?_) rows [] none none none rfl)
    exact run_retV (i := 1) (o := .lst ((echL rows []).map keD)) rfl ⟨_, rfl, q⟩
end LV
set_option exponentiation.threshold 10000
namespace LV
open PySem PySem.Spec L2
theorem BagOk.isL {o : O} {m : Int} (h : BagOk o m) : ∃ ds, o = .lst ds := by
  obtain ⟨g, s, n, e, _⟩ := h
  exact ⟨_, e⟩
theorem bag_nn {o : O} {m : Int} (h : BagOk o m) : ∀ xs, o ≠ .nst xs := by
  obtain ⟨ds, rfl⟩ := h.isL
  intro xs z
  cases z
structure EvB (rest : List (Option Val)) (w : EW) (P : D → Prop) (c : Nat) : Prop where
  go : ∀ {o : O} {m : Nat} {Q : Rv → En → Prop} {E : XW}, BagOk o (m : Int) → m + c ≤ 100000 → (∀ d o', P d → BagOk o' ((m + c : Nat) : Int) → Q (.fz d) (some (.ow o') :: rest)) → w (some (.ow o) :: rest) Q E
structure EvBO (rest : List (Option Val)) (w : EW) (P : O → Prop) (c : Nat) : Prop where
  go : ∀ {o : O} {m : Nat} {Q : Rv → En → Prop} {E : XW}, BagOk o (m : Int) → m + c ≤ 100000 → (∀ d o', P d → BagOk o' ((m + c : Nat) : Int) → Q (.ow d) (some (.ow o') :: rest)) → w (some (.ow o) :: rest) Q E
structure EvBL (rest : List (Option Val)) (wl : AW) (P : List D → Prop) (c : Nat) : Prop where
  go : ∀ {o : O} {m : Nat} {Q : List Rv → En → Prop} {E : XW}, BagOk o (m : Int) → m + c ≤ 100000 → (∀ ds o', P ds → BagOk o' ((m + c : Nat) : Int) → Q (ds.map .fz) (some (.ow o') :: rest)) → wl (some (.ow o) :: rest) Q E
section
variable {rest : List (Option Val)} {w wa wb : EW} {wl : AW} {P P1 P2 : D → Prop} {PL : List D → Prop} {c c1 c2 n : Nat} {g : G2}
theorem b_w (h : EvB rest w P1 c) (k : ∀ d, P1 d → P d) : EvB rest w P c := ⟨fun bg hm q => h.go bg hm fun d o' p b => q d o' (k d p) b⟩
theorem b_pure {d : D} (h : ∀ o, EvR (some (.ow o) :: rest) w (.fz d) (some (.ow o) :: rest)) (p : P d) : EvB rest w P 0 := ⟨fun {o m Q E} bg hm q => (h o).go (q d o p bg)⟩
theorem b_c {d : D} (p : P d) : EvB rest (wC d) P 0 := b_pure (fun _ => ev_c) p
theorem b_var (i : Nat) {d : D} (h : rest[i]? = some (some (.fz d))) (p : P d) : EvB rest (wVar (i + 1)) P 0 := b_pure (fun _ => ev_var h) p
theorem b_op (ha : EvB rest wa P1 c1) (hb : EvB rest wb P2 c2) (hg : ∀ a b, P1 a → P2 b → ∀ Q' : Rv → Prop, (∀ d, P d → Q' (.fz d)) → g a b Q') : EvB rest (wOp2 g wa wb) P (c1 + c2) := ⟨fun {o m Q E} bg hm q => by
  refine ha.go (m := m) bg (by omega) fun a o1 pa b1 => ?_
  refine hb.go (m := m + c1) b1 (by omega) fun b o2 pb b2 => ?_
  exact ⟨a, b, rfl, rfl, hg a b pa pb _ fun d pd => q d o2 pd (by rw [← Nat.add_assoc]; exact b2)⟩⟩
theorem bl_nil : EvBL rest wNil (fun ds => ds = []) 0 := ⟨fun {o m Q E} bg hm q => q [] o rfl bg⟩
theorem bl_cons (ha : EvB rest w P c1) (hl : EvBL rest wl PL c2) : EvBL rest (wCons w wl) (fun ds => ∃ d t, ds = d :: t ∧ P d ∧ PL t) (c1 + c2) := ⟨fun {o m Q E} bg hm q => by
  refine ha.go (m := m) bg (by omega) fun a o1 pa b1 => ?_
  refine hl.go (m := m + c1) b1 (by omega) fun t o2 pt b2 => ?_
  exact q (a :: t) o2 ⟨a, t, rfl, pa, pt⟩ (by rw [← Nat.add_assoc]; exact b2)⟩
theorem bl_w {PL' : List D → Prop} (h : EvBL rest wl PL c) (k : ∀ ds, PL ds → PL' ds) : EvBL rest wl PL' c := ⟨fun bg hm q => h.go bg hm fun d o' p b => q d o' (k d p) b⟩
theorem b_tup (h : EvBL rest wl PL c) (hz : ∀ ds, PL ds → ds.length ≤ 1000) : EvB rest (wTup wl) (fun d => ∃ ds, d = .tup ds ∧ PL ds) c := ⟨fun {o m Q E} bg hm q => by
  refine h.go bg hm fun ds o' p b => ?_
  have sz := sizeLine_eq
  exact ⟨ds, _, frzL_fz' ds, by have := hz ds p; omega, q _ o' ⟨ds, rfl, p⟩ b⟩⟩
theorem bo_lst (h : EvBL rest wl PL c) (hz : ∀ ds, PL ds → ds.length ≤ 1000) : EvBO rest (wLst wl) (fun d => ∃ ds, d = .lst ds ∧ PL ds) c := ⟨fun {o m Q E} bg hm q => by
  refine h.go bg hm fun ds o' p b => ?_
  have sz := sizeLine_eq
  exact ⟨ds, _, frzL_fz' ds, by have := hz ds p; omega, q _ o' ⟨ds, rfl, p⟩ b⟩⟩
theorem bo_op {P1 : O → Prop} (ha : EvBO rest wa P1 c1) (hb : EvB rest wb P2 c2) (hg : ∀ a b, P1 a → P2 b → ∀ Q' : Rv → Prop, (∀ d, P d → Q' (.fz d)) → g a.d b Q') : EvB rest (wOp2 g wa wb) P (c1 + c2) := ⟨fun {o m Q E} bg hm q => by
  refine ha.go (m := m) bg (by omega) fun a o1 pa b1 => ?_
  refine hb.go (m := m + c1) b1 (by omega) fun b o2 pb b2 => ?_
  exact ⟨a.d, b, rfl, rfl, hg a b pa pb _ fun d pd => q d o2 pd (by rw [← Nat.add_assoc]; exact b2)⟩⟩
/-- a list display at a drawn place -/
theorem b_pick {k : Nat} (h : EvBL rest wl PL c1) (hb : EvB rest wb (fun d => ∃ i : Int, d = .int i ∧ 0 ≤ i ∧ i < k) c2) (hl : ∀ ds, PL ds → ds.length = k) (hk : k ≤ 1000) (hP : ∀ ds d, PL ds → d ∈ ds → P d) : EvB rest (wOp2 gIx (wLst wl) wb) P (c1 + c2) :=
  bo_op (bo_lst h fun ds p => by rw [hl ds p]; exact hk) hb fun a b ⟨ds, ea, pl⟩ ⟨i, eb, i0, i1⟩ Q' q => by
    subst ea eb
    have := hl ds pl
    obtain ⟨x, hx, hm⟩ := at_in (l := ds) i0 (by rw [this]; exact i1)
    exact ⟨x, hx, q x (hP ds x pl hm)⟩
theorem b_draw (n : Int) (h1 : 1 ≤ n) (h2 : n < 10 ^ 40) {wn : EW} (hn : ∀ o, Ev (some (.ow o) :: rest) wn (.int n) (some (.ow o) :: rest)) : EvB rest (wCall S__law_take (wCons (wVar 0) (wCons wn wNil))) (fun d => ∃ i : Int, d = .int i ∧ 0 ≤ i ∧ i < n) 1 := ⟨fun {o m Q E} bg hm q => by
  obtain ⟨dsL, rfl⟩ := bg.isL
  simp only [wCall, wCons, wFz, wVar, List.getElem?_cons_zero]
  refine (hn (.lst dsL)).go (Q := fun r e => ∃ args, valL e [.sl 0, r] = some args ∧ (slotsOf [.sl 0, r]).Nodup ∧ S__law_take args (fun r' args' => backOk args args' = true ∧ (∀ i, r' ≠ .sl i) ∧ Q r' (putL e [.sl 0, r] args')) fun x args' => backOk args args' = true ∧ E x (putL e [.sl 0, r] args')) ?_
  simp only [valL, valOf, List.getElem?_cons_zero, slotsOf]
  exact ⟨_, rfl, List.nodup_cons.mpr ⟨fun z => (nomatch z), .nil⟩, .lst dsL, n, m, rfl, bg, h1, h2, by omega, fun d o' a b c => ⟨rfl, fun _ z => (nomatch z), q _ o' ⟨d, rfl, a, b⟩ c⟩⟩⟩
abbrev bDr (rest : List (Option Val)) (n : Int) (h1 : 1 ≤ n := by decide) (h2 : n < 10 ^ 40 := by decide) : EvB rest (wCall S__law_take (wCons (wVar 0) (wCons (wC (.int n)) wNil))) (fun d => ∃ i : Int, d = .int i ∧ 0 ≤ i ∧ i < n) 1 := b_draw n h1 h2 fun _ => cx
/-- a comprehension over a range whose items draw -/
theorem comp_b {i : Nat} {restf : Option Val → List (Option Val)} (h1 : ∀ v v', (restf v).set i v' = restf v') (hw : ∀ x : Int, EvB (restf (some (.fz (.int x)))) w P c) {Q : List D → En → Prop} : ∀ (k : Nat) (lo : Int) (acc : List D) (o : O) (m : Nat), (∀ d ∈ acc, P d) → BagOk o (m : Int) → m + c * k ≤ 100000 → acc.length + k ≤ 1000 →
    (∀ ds o', ds.length = acc.length + k → (∀ d ∈ ds, P d) → BagOk o' ((m + c * k : Nat) : Int) → Q ds (some (.ow o') :: restf none)) → compW (.n (i + 1)) uYes w [i + 1] yesK Q (rngD lo k) acc (some (.ow o) :: restf none)
  | 0, lo, acc, o, m, ha, bg, hm, hl, q => ⟨True.intro, q acc o rfl ha bg⟩
  | k + 1, lo, acc, o, m, ha, bg, hm, hl, q => by
    have sz := sizeLine_eq
    rw [Nat.mul_succ] at hm q
    refine ⟨True.intro, _, rfl, ?_⟩
    rw [List.set_cons_succ, h1]
    refine uYes_i' ?_
    rw [if_pos rfl]
    refine (hw lo).go (m := m) bg (by omega) fun d o' p b => ⟨d, _, rfl, by omega, ?_⟩
    simp only [wipeE, List.set_cons_succ]
    rw [h1]
    refine comp_b h1 hw k (lo + 1) (acc ++ [d]) o' (m + c) (fun x hx => ?_) b (by omega) (by rw [List.length_append, List.length_singleton]; omega) fun ds o2 a e f => ?_
    · rcases List.mem_append.mp hx with z | z
      · exact ha x z
      · rw [List.mem_singleton.mp z]; exact p
    · rw [List.length_append, List.length_singleton] at a
      exact q ds o2 (by omega) e (by rw [show m + (c * k + c) = m + c + c * k by omega]; exact f)
variable {K : Ks} {pn : List Nat} {i : Nat}
theorem b_set (h : EvB rest w P c) {o : O} {m : Nat} (bg : BagOk o (m : Int)) (hm : m + c ≤ 100000) (q : ∀ d o', P d → BagOk o' ((m + c : Nat) : Int) → K.nx (some (.ow o') :: rest.set i (some (.fz d)))) : wSet (i + 1) w K (some (.ow o) :: rest) := h.go bg hm fun d o' p b => q d o' p b
theorem b_ret (h : EvB rest w P c) {o : O} {m : Nat} (bg : BagOk o (m : Int)) (hm : m + c ≤ 100000) (q : ∀ d o', P d → BagOk o' ((m + c : Nat) : Int) → K.rt (.fz d) (some (.ow o') :: rest)) : wRet pn w K (some (.ow o) :: rest) := h.go bg hm fun d o' p b => q d o' p b
end
variable {env e1 e2 : En} {w wa wb : EW} {wl : AW} {ds : List D} {S : FSpec} {o : O} {i : Nat} {Q : Rv → En → Prop} {E : XW}
section
variable {env e1 e2 : En} {w wa wb : EW} {wl : AW} {ds : List D} {S : FSpec} {o : O} {i : Nat} {Q : Rv → En → Prop} {E : XW}
theorem call_bag {S : FSpec} (mS : MonoF S) (nn : ∀ xs, o ≠ .nst xs) (h : env[i]? = some (some (.ow o))) (hl : EvL env wl ds e1) (h1 : e1[i]? = some (some (.ow o)))
    (q : S (.ow o :: ds.map .fz) (fun r as => ∃ o', as = .ow o' :: ds.map .fz ∧ (∀ i, r ≠ .sl i) ∧ Q r (e1.set i (some (.ow o')))) fun _ _ => False) : wCall S (wCons (wVar i) wl) env Q E := by
  simp only [wCall, wCons, wFz, wVar, h]
  refine hl.go (Q := fun rs e => ∃ args, valL e (.sl i :: rs) = some args ∧ (slotsOf (.sl i :: rs)).Nodup ∧ S args (fun r' args' => backOk args args' = true ∧ (∀ i, r' ≠ .sl i) ∧ Q r' (putL e (.sl i :: rs) args')) fun x args' => backOk args args' = true ∧ E x (putL e (.sl i :: rs) args')) ?_
  refine ⟨.ow o :: ds.map .fz, ?_, ?_, mS.mo (fun r as ⟨o', e, n, z⟩ => ?_) (fun x as z => z.elim) q⟩
  · show (match valOf e1 (.sl i), valL e1 (ds.map Rv.fz) with | some a, some as => some (a :: as) | _, _ => none) = _
    have e : valOf e1 (.sl i) = some (.ow o) := by cases o <;> first | exact absurd rfl (nn _) | simp only [valOf, h1]
    rw [valL_fz ds, e]
  · show (i :: slotsOf (ds.map Rv.fz)).Nodup
    rw [slots_fz]
    exact List.nodup_cons.mpr ⟨fun z => (nomatch z), .nil⟩
  · subst e
    refine ⟨backOk_fz ds, n, ?_⟩
    show Q r ((putL e1 (ds.map Rv.fz) (ds.map Val.fz)).set i (some (.ow o')))
    rw [putL_fz]
    exact z
end
end LV
set_option exponentiation.threshold 20000
namespace LV
open PySem PySem.Spec L2
def pD (k : Nat) : D → Bool
  | .tup ds => match ds[k]? with
    | some (.int i) => decide (i ≠ 0)
    | _ => false
  | _ => false
theorem pD_row {r : List Int} {k : Nat} (h : k < r.length) : pD k (rowD r) = decide (fv r k ≠ 0) := by
  show (match (r.map D.int)[k]? with | some (.int i) => decide (i ≠ 0) | _ => false) = _
  have e : (r.map D.int)[k]? = some (.int (fv r k)) := by
    rw [List.getElem?_map, List.getElem?_eq_getElem h]
    unfold fv
    rw [List.getD_eq_getElem?_getD, List.getElem?_eq_getElem h]; rfl
  rw [e]
theorem one_form {A B : List (List Int × Nat)} {p : List Int × Nat} {w : Nat} (h : Red (prF (A ++ p :: B))) (hl : ∀ q, q ∈ A ++ p :: B → q.1.length = w) (hp : p.2 < w) : ((A ++ p :: B).map fun q => rowD q.1).filter (pD p.2) = [rowD p.1] := by
  have off := h.off
  unfold prF at off
  rw [List.pairwise_map, List.pairwise_append, List.pairwise_cons] at off
  obtain ⟨_, ⟨o2, _⟩, o4⟩ := off
  have z : ∀ q, q ∈ A ++ p :: B → fv q.1 p.2 = 0 → pD p.2 (rowD q.1) = false := fun q hq e => by
    rw [pD_row (by rw [hl q hq]; exact hp), e]; rfl
  have pm : p ∈ A ++ p :: B := List.mem_append.mpr (.inr List.mem_cons_self)
  have ne : fv p.1 p.2 ≠ 0 := h.ne _ (mem_prF pm)
  rw [List.map_append, List.map_cons, List.filter_append, List.filter_cons, if_pos (by rw [pD_row (by rw [hl p pm]; exact hp)]; exact decide_eq_true ne)]
  rw [List.filter_eq_nil_iff.mpr fun d hd => ?_, List.filter_eq_nil_iff.mpr fun d hd => ?_, List.nil_append]
  · obtain ⟨q, hq, rfl⟩ := List.mem_map.mp hd
    rw [z q (List.mem_append.mpr (.inr (List.mem_cons_of_mem _ hq))) (o2 q hq).2]
    exact Bool.false_ne_true
  · obtain ⟨q, hq, rfl⟩ := List.mem_map.mp hd
    rw [z q (List.mem_append.mpr (.inl hq)) (o4 q hq p List.mem_cons_self).1]
    exact Bool.false_ne_true
def S__law_is_form : FSpec := fun args Q _ => ∃ (FP : List (List Int × Nat)) (w : Nat), args = [.ow (.lst (FP.map fun p => rowD p.1)), .fz (.int (w : Int))] ∧ Frm (prF FP) ∧ (∀ p, p ∈ FP → p.1.length = w ∧ p.2 < w) ∧ w ≤ 100 ∧ FP.length ≤ 100 ∧ Q (.fz (.bl true)) args
theorem mS__law_is_form : MonoF S__law_is_form := ⟨fun h _ ⟨a, b, c, d, e, f, g, q⟩ => ⟨a, b, c, d, e, f, g, h _ _ q⟩⟩
def frmB : SW := (wSeq (wSet 4 (wCall S__law_lead (wCons (wFrz (wVar 2)) wNil)))
  (wSeq (wIf (wtOr (wB (wOp2 gLe (wVar 4) (wVar 3))) (wtOr (wB (wOp2 gLt (wOp2 gIx (wVar 2) (wVar 4)) (wC (.int 0)))) (wB (wOp2 gNe (wCall S__law_divisor (wCons (wFrz (wVar 2)) wNil)) (wC (.int 1))))))
  (wRet [0] (wC (.bl false)))
  wSkip)
  (wSeq (wIf (wB (wOp2 gNe (wBlt gLen (wCons (wLc (.n 5) (wIt [0] (wVar 0)) (wB (wOp2 gNe (wOp2 gIx (wVar 5) (wVar 4)) (wC (.int 0)))) (wVar 5) [5]) wNil)) (wC (.int 1))))
  (wRet [0] (wC (.bl false)))
  wSkip)
  (wSet 3 (wVar 4)))))
abbrev E6f (L : List D) (w : Nat) (v2 v3 v4 v5 : Option Val) : En := [some (.ow (.lst L)), some (.fz (.int (w : Int))), v2, v3, v4, v5]
theorem ev_lei {env e1 e2 : En} {wa wb : EW} {a b : Int} {k : Bool} (ha : Ev env wa (.int a) e1) (hb : Ev e1 wb (.int b) e2) (h : decide (a ≤ b) = k) : EvR env (wOp2 gLe wa wb) (.fz (.bl k)) e2 := ev_op ha hb fun Q' q => by rw [gLe_ii, h]; exact q
theorem lp_form {FP : List (List Int × Nat)} {w : Nat} {K : Ks} (hF : Frm (prF FP)) (hl : ∀ p, p ∈ FP → p.1.length = w ∧ p.2 < w) (hw : w ≤ 100) (hf : FP.length ≤ 100) (hn : ∀ v2 v3 v4, K.nx (E6f (FP.map fun p => rowD p.1) w v2 v3 v4 none)) : ∀ (l A : List (List Int × Nat)) (L : Int) (v2 v4 : Option Val), FP = A ++ l → (∀ p, p ∈ l → L < p.2) →
    loopW (.n 2) frmB (fun e' => e'[0]? = some (some (.ow (.lst (FP.map fun p => rowD p.1))))) K (l.map fun p => rowD p.1) (E6f (FP.map fun p => rowD p.1) w v2 (some (.fz (.int L))) v4 none)
  | [], A, L, v2, v4, _, _ => ⟨rfl, hn _ _ _⟩
  | p :: l, A, L, v2, v4, h, hL => by
    have pm : p ∈ FP := by rw [h]; exact List.mem_append.mpr (.inr List.mem_cons_self)
    obtain ⟨pl, pw⟩ := hl p pm
    have ne : fv p.1 p.2 ≠ 0 := hF.red.ne _ (mem_prF pm)
    have ps : 0 < fv p.1 p.2 := hF.pos _ (mem_prF pm)
    have lo := hF.low _ (mem_prF pm)
    have el : leadL p.1 = p.2 := leadL_eq ne lo
    have eI : leadI p.1 = (p.2 : Int) := by unfold leadI; rw [el, if_pos (by omega)]
    have one : ((FP.map fun q => rowD q.1).filter (pD p.2)) = [rowD p.1] := by
      rw [h]
      exact one_form (by rw [← h]; exact hF.red) (by rw [← h]; exact fun q hq => (hl q hq).1) pw
    have asc : ∀ q, q ∈ l → p.2 < q.2 := fun q hq => by
      have a := hF.asc
      rw [h] at a
      unfold prF at a
      rw [List.pairwise_map, List.pairwise_append, List.pairwise_cons] at a
      exact a.2.1.1 q hq
    have go := lp_form hF hl hw hf hn l (A ++ [p]) (p.2 : Int) (some (.fz (rowD p.1))) (some (.fz (.int (p.2 : Int)))) (by rw [h, List.append_assoc]; rfl) fun q hq => by have := asc q hq; omega
    have hL0 := hL p List.mem_cons_self
    refine ⟨rfl, _, rfl, ?_⟩
    obtain ⟨LL, hLL⟩ : ∃ LL, (FP.map fun p => rowD p.1) = LL := ⟨_, rfl⟩
    have lenL : LL.length ≤ 100 := by rw [← hLL, List.length_map]; exact hf
    have memL : ∀ d, d ∈ LL → ∃ r : List Int, d = rowD r ∧ r.length = w := fun d hd => by
      rw [← hLL] at hd
      obtain ⟨q, hq, rfl⟩ := List.mem_map.mp hd
      exact ⟨q.1, rfl, (hl q hq).1⟩
    rw [hLL] at one go ⊢
    show frmB _ (E6f LL w (some (.fz (rowD p.1))) (some (.fz (.int L))) v4 none)
    unfold frmB
    have e4 : EvR (E6f LL w (some (.fz (rowD p.1))) (some (.fz (.int L))) v4 none) (wCall S__law_lead (wCons (wFrz (wVar 2)) wNil)) (.fz (.int (p.2 : Int))) (E6f LL w (some (.fz (rowD p.1))) (some (.fz (.int L))) v4 none) := by
      have := ev_lead (env := E6f LL w (some (.fz (rowD p.1))) (some (.fz (.int L))) v4 none) (fx 2 rfl) (sqT p.1) (by omega)
      rw [eI] at this
      exact this
    refine seq_k fun K1 hn1 _ _ _ _ => run_set e4 (hn1 _ ?_)
    change wSeq _ _ _ (E6f LL w (some (.fz (rowD p.1))) (some (.fz (.int L))) (some (.fz (.int (p.2 : Int)))) none)
    have dv : EvR (E6f LL w (some (.fz (rowD p.1))) (some (.fz (.int L))) (some (.fz (.int (p.2 : Int)))) none) (wOp2 gNe (wCall S__law_divisor (wCons (wFrz (wVar 2)) wNil)) (wC (.int 1))) (.fz (.bl false)) (E6f LL w (some (.fz (rowD p.1))) (some (.fz (.int L))) (some (.fz (.int (p.2 : Int)))) none) := by
      have := ev_neb' (env := E6f LL w (some (.fz (rowD p.1))) (some (.fz (.int L))) (some (.fz (.int (p.2 : Int)))) none) (ev_divisor (fx 2 rfl) (sqT p.1)).fz (cx (d := .int 1))
      rw [prim_one (hF.prim _ (mem_prF pm)), decide_eq_false (by decide)] at this
      exact this
    refine sk_f (evt_or_f (evt_B (k := false) (ev_lei (vx 4 rfl) (vx 3 rfl) (decide_eq_false (by omega)))) (evt_or_f (evt_B (k := false) (ev_lti (ev_ixS (sqT p.1) (vx 2 rfl) (vx 4 rfl) (by omega)).fz cx (decide_eq_false (by omega)))) (evt_B dv))) ?_
    have lc := lc_fmP (env := E6f LL w (some (.fz (rowD p.1))) (some (.fz (.int L))) (some (.fz (.int (p.2 : Int)))) none) (k := 0) (i := 5) (xs := LL) (u := wB (wOp2 gNe (wOp2 gIx (wVar 5) (wVar 4)) (wC (.int 0)))) (w := wVar 5) (pD p.2) id rfl (by decide) (fun d hd => by
      obtain ⟨r, rfl, hr⟩ := memL d hd
      refine ⟨?_, fun _ => vx 5 rfl⟩
      have := evt_B (ev_neb' (env := E6f LL w (some (.fz (rowD p.1))) (some (.fz (.int L))) (some (.fz (.int (p.2 : Int)))) (some (.fz (rowD r)))) (ev_ixS (sqT r) (vx 5 rfl) (vx 4 rfl) (show p.2 < r.length by omega)).fz (cx (d := .int 0)))
      rw [pD_row (by omega)]
      exact this) (by omega)
    rw [List.map_id, one] at lc
    have ln : EvR (E6f LL w (some (.fz (rowD p.1))) (some (.fz (.int L))) (some (.fz (.int (p.2 : Int)))) none) (wOp2 gNe (wBlt gLen (wCons (wLc (.n 5) (wIt [0] (wVar 0)) (wB (wOp2 gNe (wOp2 gIx (wVar 5) (wVar 4)) (wC (.int 0)))) (wVar 5) [5]) wNil)) (wC (.int 1))) (.fz (.bl false)) (E6f LL w (some (.fz (rowD p.1))) (some (.fz (.int L))) (some (.fz (.int (p.2 : Int)))) none) := ev_nei (a := 1) (ev_lenl lc.ow).fz cx
    refine sk_f (evt_B ln) ?_
    exact run_set (d := .int (p.2 : Int)) (ev_var rfl) go
theorem kp__law_is_form : Keeps S__law_is_form [0] 2 6 (w__law_is_form S__law_is_row S__law_lead S__law_divisor) where
  fit := fun args Q E ⟨_, _, a, _⟩ => a ▸ fitO2
  run := fun args Q E ⟨FP, w, a, hF, hl, hw, hf, q⟩ => by
    subst a
    unfold w__law_is_form
    change wSeq _ _ _ (E6f (FP.map fun p => rowD p.1) w none none none none)
    refine sk_f (evt_not (k := true) (evt_trub (ev_isiS (t := .lst) (T := .lst) (o := .lst (FP.map fun p => rowD p.1)) rfl rfl))) ?_
    have lc := lc_fmP (env := E6f (FP.map fun p => rowD p.1) w none none none none) (k := 0) (i := 2) (xs := FP.map fun p => rowD p.1) (u := uYes) (w := wCall S__law_is_row (wCons (wFrz (wVar 2)) (wCons (wFrz (wVar 1)) wNil))) (fun _ => true) (fun _ => .bl true) rfl (by decide) (fun d hd => ⟨evt_yes, fun _ => by
      obtain ⟨p, hp, rfl⟩ := List.mem_map.mp hd
      exact (ev_call (S := S__law_is_row) (ds := [rowD p.1, .int (w : Int)]) (evl_cons (fx 2 rfl) (evl_cons (fx 1 rfl) evl_nil)) (fun q => ⟨p.1, w, rfl, (hl p hp).1, by omega, q⟩) fun i z => by cases z).fz⟩) (by rw [List.length_map]; omega)
    rw [List.filter_eq_self.mpr fun _ _ => rfl] at lc
    have al := ev_blt (g := gAll) (r := .fz (.bl true)) (evl_cons lc.ow evl_nil) fun Q' q => ⟨(FP.map fun p => rowD p.1).map fun _ => true, by
      show [D.lst (((FP.map fun p => rowD p.1)).map fun _ => D.bl true)] = _
      rw [List.map_map (g := D.bl)]; rfl, by
      rw [show (((FP.map fun p => rowD p.1)).map fun _ => true).all id = true by rw [List.all_map]; exact List.all_eq_true.mpr fun _ _ => rfl]
      exact q⟩
    refine sk_f (evt_not (k := true) (evt_trub al)) ?_
    refine seq_k fun K1 hn1 _ _ _ _ => run_set (d := .int (-1)) ev_neg (hn1 _ ?_)
    change wSeq _ _ _ (E6f (FP.map fun p => rowD p.1) w none (some (.fz (.int (-1)))) none none)
    refine seq_k fun K2 hn2 _ _ _ _ => run_forP rfl (lp_form hF hl hw hf (fun v2 v3 v4 => hn2 _ ?_) FP [] (-1) none none rfl fun p _ => by omega)
    exact run_ret (d := .bl true) ev_c ⟨_, rfl, q⟩
def sumR (a : List Int) (f : Int) (b : List Int) (g : Int) : List Int := List.zipWith (fun x y => x * f + y * g) a b
theorem sumR_fv {a b : List Int} {f g : Int} (h : a.length = b.length) (j : Nat) : fv (sumR a f b g) j = f * fv a j + g * fv b j := by
  unfold sumR
  rw [fv_zip (by rw [Int.zero_mul, Int.zero_mul]; rfl) a b j h, Int.mul_comm, Int.mul_comm g]
theorem sumR_len {a b : List Int} {f g : Int} (h : a.length = b.length) : (sumR a f b g).length = a.length := by
  unfold sumR
  rw [List.length_zipWith]; omega
def S__law_sum : FSpec := fun args Q _ => ∃ (a b : List Int) (f g : Int), args = [.fz (rowD a), .fz (.int f), .fz (rowD b), .fz (.int g)] ∧ a.length = b.length ∧ a.length ≤ 900 ∧ (∀ j, (fv a j).natAbs < 2 ^ 8000) ∧ (∀ j, (fv b j).natAbs < 2 ^ 8000) ∧ f.natAbs ≤ 3 ∧ g.natAbs ≤ 3 ∧ Q (.fz (rowD (sumR a f b g))) args
theorem mS__law_sum : MonoF S__law_sum := ⟨fun h _ ⟨a, b, f, g, e1, e2, e3, e4, e5, e6, e7, q⟩ => ⟨a, b, f, g, e1, e2, e3, e4, e5, e6, e7, h _ _ q⟩⟩
theorem fit4 {pn : List Nat} {d d' d'' d3 : D} : ArgsFit pn 4 [.fz d, .fz d', .fz d'', .fz d3] := ⟨rfl, fun j o h => by rcases j with _ | _ | _ | _ | j <;> simp at h, fun j a C ks vs h => by rcases j with _ | _ | _ | _ | j <;> simp at h⟩
theorem kp__law_sum : Keeps S__law_sum [] 4 5 w__law_sum where
  fit := fun args Q E ⟨_, _, _, _, a, _⟩ => a ▸ fit4
  run := fun args Q E ⟨a, b, f, g, e, hl, h9, ha, hb, hf, hg, q⟩ => by
    subst e
    unfold w__law_sum
    change wRet _ _ _ [some (.fz (rowD a)), some (.fz (.int f)), some (.fz (rowD b)), some (.fz (.int g)), none]
    have up : ∀ {i : Int}, i.natAbs < 2 ^ 8000 → i.natAbs < 2 ^ 8999 := fun h => Nat.lt_of_lt_of_le h (Nat.pow_le_pow_right (by decide) (by decide))
    have u3 : ∀ {i : Int}, i.natAbs ≤ 3 → i.natAbs < 2 ^ 8999 := fun h => Nat.lt_of_lt_of_le (show _ < 2 ^ 2 by omega) (Nat.pow_le_pow_right (by decide) (by decide))
    have lc := lc_rngL (env := [some (.fz (rowD a)), some (.fz (.int f)), some (.fz (rowD b)), some (.fz (.int g)), none]) (e1 := [some (.fz (rowD a)), some (.fz (.int f)), some (.fz (rowD b)), some (.fz (.int g)), none]) (i := 4) (n := a.length) (w := wOp2 gAdd (wOp2 gMulT (wOp2 gIx (wVar 0) (wVar 4)) (wVar 1)) (wOp2 gMulT (wOp2 gIx (wVar 2) (wVar 4)) (wVar 3))) (f := fun j => D.int (fv a j * f + fv b j * g)) (evl_cons (ev_lenS (sqT a) (vx 0 rfl)).fz evl_nil) (by omega) fun j hj =>
      (ev_addi (ev_mulX (ev_ixS (sqT a) (vx 0 rfl) (vx 4 rfl) hj).fz (vx 1 rfl) (cm_ok (up (ha j)) (u3 hf))).fz (ev_mulX (ev_ixS (sqT b) (vx 2 rfl) (vx 4 rfl) (by omega)).fz (vx 3 rfl) (cm_ok (up (hb j)) (u3 hg))).fz).fz
    rw [zip_get (fun x y => x * f + y * g) a b (by rw [Int.zero_mul, Int.zero_mul]; rfl) hl] at lc
    exact run_ret (ev_tuple lc.ow) ⟨_, rfl, q⟩
end LV
namespace LV
open PySem PySem.Spec L2
section
variable {rest : List (Option Val)} {w wa wb : EW} {wl : AW} {P P1 P2 : D → Prop} {PL : List D → Prop} {c c1 c2 : Nat} {g : G2} {i : Nat} {ds L : List D} {S : FSpec} {K : Ks} {o : O} {m : Nat}
theorem b_opS (hi : rest[i]? = some (some (.ow (.lst ds)))) (hb : EvB rest wb P2 c) (hg : ∀ b, P2 b → ∀ Q' : Rv → Prop, (∀ d, P d → Q' (.fz d)) → g (.lst ds) b Q') : EvB rest (wOp2 g (wVar (i + 1)) wb) P c := ⟨fun {o m Q E} bg hm q => by
  show wFz (wVar (i + 1)) (some (.ow o) :: rest) (fun ra e1 => wFz wb e1 (fun rb e2 => ∃ da db, look e2 ra = some da ∧ look e2 rb = some db ∧ g da db (fun r => Q r e2)) E) E
  unfold wFz
  simp only [wVar, List.getElem?_cons_succ, hi]
  exact hb.go bg hm fun b o' pb bb => ⟨.lst ds, b, by simp only [Rv.frz, look, List.getElem?_cons_succ, hi]; rfl, rfl, hg b pb _ fun d pd => q d o' pd bb⟩⟩
theorem b_frz (h : EvB rest w P c) : EvB rest (wFrz w) P c := ⟨fun {o m Q E} bg hm q => by
  unfold wFrz wFz
  exact h.go bg hm fun d o' p b => ⟨d, _, rfl, q d o' p b⟩⟩
theorem bl_const (h : ∀ o, EvL (some (.ow o) :: rest) wl L (some (.ow o) :: rest)) : EvBL rest wl (fun ds => ds = L) 0 := ⟨fun {o m Q E} bg hm q => (h o).go (q L o rfl bg)⟩
theorem b_callL (hl : EvBL rest wl PL c) (hS : ∀ ds, PL ds → ∀ (Q' : Rv → List Val → Prop) (E' : Xn → List Val → Prop), (∀ d, P d → Q' (.fz d) (ds.map .fz)) → S (ds.map .fz) Q' E') : EvB rest (wCall S wl) P c := ⟨fun {o m Q E} bg hm q => by
  unfold wCall
  exact hl.go bg hm fun ds o' p b => ⟨_, valL_fz ds, by rw [slots_fz]; exact List.nodup_nil, hS ds p _ _ fun d pd => ⟨backOk_fz ds, (fun _ z => nomatch z), by rw [putL_fz]; exact q d o' pd b⟩⟩⟩
theorem b_sub (ha : EvB rest wa (fun d => ∃ x : Int, d = .int x ∧ 0 ≤ x ∧ x < 7) c) : EvB rest (wOp2 gSub wa (wC (.int 3))) (fun d => ∃ x : Int, d = .int x ∧ x.natAbs ≤ 3) c :=
  b_op (c2 := 0) ha (b_c (P := fun d => d = .int 3) rfl) fun a b ⟨x, e, x0, x1⟩ eb Q' q => by
    subst e eb
    rw [gSub_ii]
    exact q _ ⟨_, rfl, by omega⟩
theorem b_ifB {s t : SW} {PB : Bool → Prop} (h : EvB rest w (fun d => ∃ b, d = .bl b ∧ PB b) c) (bg : BagOk o (m : Int)) (hm : m + c ≤ 100000) (q : ∀ b o', PB b → BagOk o' ((m + c : Nat) : Int) → if b = true then s K (some (.ow o') :: rest) else t K (some (.ow o') :: rest)) : wIf (wB w) s t K (some (.ow o) :: rest) := h.go bg hm fun d o' ⟨b, e, pb⟩ bb => by
  subst e
  exact ⟨b, rfl, q b o' pb bb⟩
theorem evt_truS {env : En} {i : Nat} (h : env[i]? = some (some (.ow (.lst ds)))) : EvT env (wTru (wVar i)) (!ds.isEmpty) env := ⟨fun {Q E} q => by
  unfold wTru wFz
  simp only [wVar, h]
  exact ⟨.lst ds, _, by simp only [Rv.frz, look, h]; rfl, rfl, q⟩⟩
end
def Spn (w : Nat) : Nat := if w < 7 then 10 ^ 12 else 100
def Bd (w i : Nat) : Nat := Spn w * 6 ^ min i 4
theorem Bd_mono {w i j : Nat} (h : i ≤ j) : Bd w i ≤ Bd w j := Nat.mul_le_mul_left _ (Nat.pow_le_pow_right (by decide) (by omega))
theorem Bd_le (w i : Nat) : Bd w i ≤ 10 ^ 16 := by
  have h1 : Spn w ≤ 10 ^ 12 := by unfold Spn; split <;> decide
  have h2 : 6 ^ min i 4 ≤ 6 ^ 4 := Nat.pow_le_pow_right (by decide) (by omega)
  exact Nat.le_trans (Nat.mul_le_mul h1 h2) (by decide)
def RBd (w i : Nat) (r : List Int) : Prop := r.length = w ∧ ∀ j, (fv r j).natAbs ≤ Bd w i
def GoodR (w : Nat) (rows : List (List Int)) : Prop := ∀ i r, rows[i]? = some r → RBd w i r
theorem sum_bd {w i j : Nat} {a b : List Int} {f g : Int} {n : Nat} (ha : RBd w i a) (hb : RBd w j b) (hi : i < min 4 n) (hj : j < min 4 n) (hf : f.natAbs ≤ 3) (hg : g.natAbs ≤ 3) : RBd w n (sumR a f b g) := by
  refine ⟨by rw [sumR_len (by rw [ha.1, hb.1]), ha.1], fun k => ?_⟩
  rw [sumR_fv (by rw [ha.1, hb.1])]
  obtain ⟨m, hm⟩ : ∃ m, min n 4 = m + 1 := ⟨min n 4 - 1, by omega⟩
  have b1 : Bd w i ≤ Spn w * 6 ^ m := Nat.mul_le_mul_left _ (Nat.pow_le_pow_right (by decide) (by omega))
  have b2 : Bd w j ≤ Spn w * 6 ^ m := Nat.mul_le_mul_left _ (Nat.pow_le_pow_right (by decide) (by omega))
  have b3 : Bd w n = 6 * (Spn w * 6 ^ m) := by
    unfold Bd
    rw [hm, Nat.pow_succ', Nat.mul_left_comm]
  have h1 : (f * fv a k).natAbs ≤ 3 * (Spn w * 6 ^ m) := by rw [Int.natAbs_mul]; exact Nat.mul_le_mul hf (Nat.le_trans (ha.2 k) b1)
  have h2 : (g * fv b k).natAbs ≤ 3 * (Spn w * 6 ^ m) := by rw [Int.natAbs_mul]; exact Nat.mul_le_mul hg (Nat.le_trans (hb.2 k) b2)
  omega
theorem bd8000 {w i : Nat} {r : List Int} (h : RBd w i r) : ∀ j, (fv r j).natAbs < 2 ^ 8000 := fun j => by
  have h1 := h.2 j
  have h2 := Bd_le w i
  have h3 : (10 : Nat) ^ 16 < 2 ^ 60 := by decide
  have h4 : 2 ^ 60 ≤ 2 ^ 8000 := Nat.pow_le_pow_right (by decide) (by decide)
  omega
def S__law_row : FSpec := fun args Q _ => ∃ (o : O) (m w : Nat) (rows : List (List Int)), args = [.ow o, .fz (.int (w : Int)), .ow (.lst (rows.map rowD))] ∧ BagOk o (m : Int) ∧ m + 60 ≤ 100000 ∧ 1 ≤ w ∧ w ≤ 17 ∧ rows.length ≤ 30 ∧ GoodR w rows ∧ ∀ r o', RBd w rows.length r → BagOk o' ((m + 60 : Nat) : Int) → Q (.fz (rowD r)) [.ow o', .fz (.int (w : Int)), .ow (.lst (rows.map rowD))]
theorem mS__law_row : MonoF S__law_row := ⟨fun h _ ⟨o, m, w, r, a, b, c, d, e, f, g, q⟩ => ⟨o, m, w, r, a, b, c, d, e, f, g, fun x y h1 h2 => h _ _ (q x y h1 h2)⟩⟩
theorem fitOO {o o' : O} {d : D} : ArgsFit [0, 2] 3 [.ow o, .fz d, .ow o'] := ⟨rfl, fun j o h => by rcases j with _ | _ | _ | j <;> simp at h ⊢, fun j a C ks vs h => by rcases j with _ | _ | _ | j <;> simp at h⟩
abbrev R10 (w : Nat) (rows : List (List Int)) (v3 v4 v5 v6 v7 v8 v9 v10 : Option Val) : List (Option Val) := [some (.fz (.int (w : Int))), some (.ow (.lst (rows.map rowD))), v3, v4, v5, v6, v7, v8, v9, v10]
/-- one of the first four rows -/
def PickD (w : Nat) (rows : List (List Int)) (d : D) : Prop := ∃ (a : List Int) (i : Nat), d = rowD a ∧ i < min 4 rows.length ∧ RBd w i a
section
variable {w : Nat} {rows : List (List Int)} {v3 v4 v5 v6 v7 v8 v9 v10 : Option Val}
theorem b_pickR (hg : GoodR w rows) (hl : rows.length ≤ 30) (hn : rows ≠ []) : EvB (R10 w rows v3 v4 v5 v6 v7 v8 v9 v10) (wOp2 gIx (wVar 2) (wCall S__law_take (wCons (wVar 0) (wCons (wFrz (wBlt gMin2 (wCons (wC (.int 4)) (wCons (wBlt gLen (wCons (wVar 2) wNil)) wNil)))) wNil)))) (PickD w rows) 1 := by
  have l1 : 1 ≤ rows.length := by
    cases rows with
    | nil => exact absurd rfl hn
    | cons a l => rw [List.length_cons]; omega
  have dr := b_draw (rest := R10 w rows v3 v4 v5 v6 v7 v8 v9 v10) ((min 4 rows.length : Nat) : Int) (by omega) (by omega) (wn := wFrz (wBlt gMin2 (wCons (wC (.int 4)) (wCons (wBlt gLen (wCons (wVar 2) wNil)) wNil)))) fun o => by
    have ln : EvR (some (.ow o) :: R10 w rows v3 v4 v5 v6 v7 v8 v9 v10) (wBlt gLen (wCons (wVar 2) wNil)) (.fz (.int ((rows.map rowD).length : Int))) (some (.ow o) :: R10 w rows v3 v4 v5 v6 v7 v8 v9 v10) := ev_lenW rfl
    have := ev_blt (g := gMin2) (r := .fz (.int ((min 4 rows.length : Nat) : Int))) (evl_cons (cx (env := some (.ow o) :: R10 w rows v3 v4 v5 v6 v7 v8 v9 v10) (d := .int 4)) (evl_cons ln.fz evl_nil)) fun Q' q => by
      rw [gMin2_ii, List.length_map]
      rw [show (if (rows.length : Int) < 4 then (rows.length : Int) else 4) = ((min 4 rows.length : Nat) : Int) by split <;> omega]
      exact q
    exact (ev_frz this.fz).fz
  refine b_opS (i := 1) (ds := rows.map rowD) rfl dr fun b ⟨x, e, x0, x1⟩ Q' q => ?_
  subst e
  obtain ⟨k, rfl⟩ := nat_of x0
  have hk : k < rows.length := by omega
  exact ix_l (by rw [List.getElem?_map, List.getElem?_eq_getElem hk]; rfl) (q _ ⟨rows[k], k, rfl, by omega, hg k _ (List.getElem?_eq_getElem hk)⟩)
theorem b_seven : EvB (R10 w rows v3 v4 v5 v6 v7 v8 v9 v10) (wOp2 gSub (wCall S__law_take (wCons (wVar 0) (wCons (wC (.int 7)) wNil))) (wC (.int 3))) (fun d => ∃ x : Int, d = .int x ∧ x.natAbs ≤ 3) 1 := b_sub (bDr _ 7)
end
def rowB : SW := (wSeq (wSet 10 (wC (.int 0)))
  (wSeq (wIf (wB (wOp2 gGt (wCall S__law_take (wCons (wVar 0) (wCons (wC (.int 3)) wNil))) (wC (.int 0))))
  (wSet 10 (wOp2 gSub (wCall S__law_take (wCons (wVar 0) (wCons (wFrz (wOp2 gAdd (wOp2 gMulT (wC (.int 2)) (wVar 7)) (wC (.int 1)))) wNil))) (wVar 7)))
  wSkip)
  (wApp 8 (wVar 10))))
theorem fv_app {xs : List Int} {x : Int} {S : Nat} (h : ∀ j, (fv xs j).natAbs ≤ S) (hx : x.natAbs ≤ S) : ∀ j, (fv (xs ++ [x]) j).natAbs ≤ S := fun j => by
  by_cases z : j < (xs ++ [x]).length
  · have := fv_in z
    rcases List.mem_append.mp this with k | k
    · obtain ⟨i, _, e⟩ := fv_mem k
      rw [← e]; exact h i
    · rw [List.mem_singleton.mp k]; exact hx
  · rw [fv_out (by omega)]; exact Nat.zero_le _
theorem row_lp {w S : Nat} {rows : List (List Int)} {K : Ks} {v3 v4 v5 v6 : Option Val} (hS : S ≤ 10 ^ 12) (hw : w ≤ 17) : ∀ (j k : Nat) (xs : List Int) (o : O) (m : Nat) (v9 v10 : Option Val), k + j = w → xs.length = k → (∀ j, (fv xs j).natAbs ≤ S) → BagOk o (m : Int) → m + 2 * j ≤ 100000 →
    (∀ xs o' v9 v10, (∀ j, (fv xs j).natAbs ≤ S) → xs.length = w → BagOk o' ((m + 2 * j : Nat) : Int) → K.nx (some (.ow o') :: R10 w rows v3 v4 v5 v6 (some (.fz (.int (S : Int)))) (some (.ow (.lst (xs.map D.int)))) v9 v10)) →
    loopW (.n 9) rowB yesK K (rngD (k : Int) j) (some (.ow o) :: R10 w rows v3 v4 v5 v6 (some (.fz (.int (S : Int)))) (some (.ow (.lst (xs.map D.int)))) v9 v10)
  | 0, k, xs, o, m, v9, v10, hk, hl, hx, bg, hm, hn => ⟨True.intro, hn xs o v9 v10 hx (by omega) bg⟩
  | j + 1, k, xs, o, m, v9, v10, hk, hl, hx, bg, hm, hn => by
    refine ⟨True.intro, _, rfl, ?_⟩
    show rowB _ (some (.ow o) :: R10 w rows v3 v4 v5 v6 (some (.fz (.int (S : Int)))) (some (.ow (.lst (xs.map D.int)))) (some (.fz (.int (k : Int)))) v10)
    have go : ∀ (x : Int) (o' : O) (v9 v10 : Option Val), x.natAbs ≤ S → BagOk o' ((m + 2 : Nat) : Int) → loopW (.n 9) rowB yesK K (rngD ((k : Int) + 1) j) (some (.ow o') :: R10 w rows v3 v4 v5 v6 (some (.fz (.int (S : Int)))) (some (.ow (.lst ((xs ++ [x]).map D.int)))) v9 v10) := fun x o' v9 v10 hx' b => by
      rw [show (k : Int) + 1 = ((k + 1 : Nat) : Int) by omega]
      exact row_lp hS hw j (k + 1) (xs ++ [x]) o' (m + 2) v9 v10 (by omega) (by rw [List.length_append, hl]; rfl) (fv_app hx hx') b (by omega) fun xs o' v9 v10 a b c => hn xs o' v9 v10 a b (by rw [show m + 2 * (j + 1) = m + 2 + 2 * j by omega]; exact c)
    unfold rowB
    refine seq_k fun K1 hn1 _ _ _ _ => run_set (d := .int 0) ev_c (hn1 _ ?_)
    change wSeq _ _ _ (some (.ow o) :: R10 w rows v3 v4 v5 v6 (some (.fz (.int (S : Int)))) (some (.ow (.lst (xs.map D.int)))) (some (.fz (.int (k : Int)))) (some (.fz (.int 0))))
    have app : ∀ (x : Int) (o' : O), x.natAbs ≤ S → BagOk o' ((m + 2 : Nat) : Int) → wApp 8 (wVar 10) { K with nx := loopW (.n 9) rowB yesK K (rngD ((k : Int) + 1) j), ct := loopW (.n 9) rowB yesK K (rngD ((k : Int) + 1) j), bk := K.nx } (some (.ow o') :: R10 w rows v3 v4 v5 v6 (some (.fz (.int (S : Int)))) (some (.ow (.lst (xs.map D.int)))) (some (.fz (.int (k : Int)))) (some (.fz (.int x)))) := fun x o' hx' b => by
      refine app_d (ds := xs.map D.int) (d := .int x) (vx 10 rfl) rfl (by rw [List.length_map]; omega) ?_
      have := go x o' (some (.fz (.int (k : Int)))) (some (.fz (.int x))) hx' b
      rw [List.map_append] at this
      exact this
    refine seq_k fun K2 hn2 _ _ _ _ => b_ifB (PB := fun _ => True) (b_op (c2 := 0) (bDr _ 3) (b_c (P := fun d => d = .int 0) rfl) fun a b ⟨x, e, x0, x1⟩ eb Q' q => by
      subst e eb
      rw [gGt_ii]
      exact q _ ⟨_, rfl, trivial⟩) bg (by omega) fun b o1 _ bg1 => ?_
    cases b with
    | true =>
      rw [if_pos rfl]
      have dr := b_draw (rest := R10 w rows v3 v4 v5 v6 (some (.fz (.int (S : Int)))) (some (.ow (.lst (xs.map D.int)))) (some (.fz (.int (k : Int)))) (some (.fz (.int 0)))) (2 * (S : Int) + 1) (by omega) (by omega) (wn := wFrz (wOp2 gAdd (wOp2 gMulT (wC (.int 2)) (wVar 7)) (wC (.int 1)))) fun o => (ev_frz (ev_addi (ev_mulX cx (vx 7 rfl) (cm_ok (by decide) (Nat.lt_of_lt_of_le (show _ < 2 ^ 41 by omega) (Nat.pow_le_pow_right (by decide) (by decide))))).fz cx).fz).fz
      have sb : EvB (R10 w rows v3 v4 v5 v6 (some (.fz (.int (S : Int)))) (some (.ow (.lst (xs.map D.int)))) (some (.fz (.int (k : Int)))) (some (.fz (.int 0)))) (wOp2 gSub (wCall S__law_take (wCons (wVar 0) (wCons (wFrz (wOp2 gAdd (wOp2 gMulT (wC (.int 2)) (wVar 7)) (wC (.int 1)))) wNil))) (wVar 7)) (fun d => ∃ y : Int, d = .int y ∧ y.natAbs ≤ S) (1 + 0) :=
        b_op dr (b_var 6 rfl (P := fun d => d = .int (S : Int)) rfl) fun a b ⟨y, e, y0, y1⟩ eb Q' q => by
          subst e eb
          rw [gSub_ii]
          exact q _ ⟨_, rfl, by omega⟩
      refine b_set (i := 9) sb bg1 (by omega) fun d o2 ⟨y, e, hy⟩ bg2 => hn2 _ ?_
      subst e
      exact app y o2 hy bg2
    | false =>
      rw [if_neg Bool.false_ne_true]
      exact hn2 _ (app 0 o1 (Nat.zero_le _) (bg1.mono (by omega)))
theorem kp__law_row : Keeps S__law_row [0, 2] 3 11 (w__law_row S__law_take S__law_sum) where
  fit := fun args Q E ⟨_, _, _, _, a, _⟩ => a ▸ fitOO
  run := fun args Q E ⟨o, m, w, rows, e, bg, hm, w1, w17, hl, hg, q⟩ => by
    subst e
    unfold w__law_row
    have sz := sizeLine_eq
    have tl : (if rows.map rowD = [] then false else true) = !(rows.map rowD).isEmpty := by cases rows <;> rfl
    have fin : ∀ (K : Ks) (r : List Int) (o' : O) (c : Nat) (v3 v4 v5 v6 v7 v8 v9 v10 : Option Val), K.rt = (KsFn [0, 2] [.ow o, .fz (.int (w : Int)), .ow (.lst (rows.map rowD))] Q E).rt → RBd w rows.length r → BagOk o' ((m + c : Nat) : Int) → c ≤ 60 → K.rt (.fz (rowD r)) (some (.ow o') :: R10 w rows v3 v4 v5 v6 v7 v8 v9 v10) := fun K r o' c v3 v4 v5 v6 v7 v8 v9 v10 hK hr b hc => by
      rw [hK]
      exact ⟨_, rfl, q r o' hr (b.mono (by omega))⟩
    change wSeq _ _ _ (some (.ow o) :: R10 w rows none none none none none none none none)
    refine seq_k fun K1 hn1 _ _ _ _ => b_set (i := 2) (bDr _ 8) bg (by omega) fun d o1 ⟨way, e, y0, y1⟩ bg1 => hn1 _ ?_
    subst e
    change wSeq _ _ _ (some (.ow o1) :: R10 w rows (some (.fz (.int way))) none none none none none none none)
    have eq : ∀ (k : Int) {v4 v5 v6 v7 v8 v9 v10 : Option Val}, EvT (some (.ow o1) :: R10 w rows (some (.fz (.int way))) v4 v5 v6 v7 v8 v9 v10) (wB (wOp2 gEq (wVar 3) (wC (.int k)))) (decide (way = k)) (some (.ow o1) :: R10 w rows (some (.fz (.int way))) v4 v5 v6 v7 v8 v9 v10) := fun k => evt_B (ev_eqi' (vx 3 rfl) cx rfl)
    have tr : ∀ {v4 v5 v6 v7 v8 v9 v10 : Option Val}, EvT (some (.ow o1) :: R10 w rows (some (.fz (.int way))) v4 v5 v6 v7 v8 v9 v10) (wTru (wVar 2)) (!(rows.map rowD).isEmpty) (some (.ow o1) :: R10 w rows (some (.fz (.int way))) v4 v5 v6 v7 v8 v9 v10) := evt_truS rfl
    -- the sum of two picked rows
    have sm : ∀ {wa wf wb wg : EW} {v3 v4 v5 v6 v7 v8 v9 v10 : Option Val} {c : Nat} {a b : List Int} {i j : Nat}, EvBL (R10 w rows v3 v4 v5 v6 v7 v8 v9 v10) (wCons wa (wCons wf (wCons wb (wCons wg wNil)))) (fun ds => ∃ f g : Int, ds = [rowD a, .int f, rowD b, .int g] ∧ f.natAbs ≤ 3 ∧ g.natAbs ≤ 3) c → i < min 4 rows.length → j < min 4 rows.length → RBd w i a → RBd w j b → EvB (R10 w rows v3 v4 v5 v6 v7 v8 v9 v10) (wCall S__law_sum (wCons wa (wCons wf (wCons wb (wCons wg wNil))))) (fun d => ∃ r, d = rowD r ∧ RBd w rows.length r) c := fun {wa wf wb wg v3 v4 v5 v6 v7 v8 v9 v10 c a b i j} h hi hj ha hb =>
      b_callL h fun ds ⟨f, g, e, hf, hg'⟩ Q' E' q' => by
        subst e
        exact ⟨a, b, f, g, rfl, by rw [ha.1, hb.1], by rw [ha.1]; omega, bd8000 ha, bd8000 hb, hf, hg', q' _ ⟨_, rfl, sum_bd ha hb hi hj hf hg'⟩⟩
    -- behind the two special ways
    have tail : way ≠ 7 ∨ rows = [] → way ≠ 6 ∨ rows = [] → wSeq (wSet 7 (wC (.int 5))) (wSeq (wIf (wB (wOp2 gEq (wVar 3) (wC (.int 5)))) (wSeq (wSet 7 (wC (.int 100))) (wIf (wB (wOp2 gLt (wVar 1) (wC (.int 7)))) (wSet 7 (wOp2 gPow (wC (.int 10)) (wC (.int 12)))) wSkip)) wSkip) (wSeq (wSet 8 (wLst wNil)) (wSeq (wFor (.n 9) (wRng1 (wCons (wVar 1) wNil)) rowB) (wRet [0, 2] (wBlt gTuple (wCons (wVar 8) wNil)))))) (KsFn [0, 2] [.ow o, .fz (.int (w : Int)), .ow (.lst (rows.map rowD))] Q E) (some (.ow o1) :: R10 w rows (some (.fz (.int way))) none none none none none none none) := fun _ _ => by
      have body : ∀ S : Nat, S ≤ Spn w → wSeq (wSet 8 (wLst wNil)) (wSeq (wFor (.n 9) (wRng1 (wCons (wVar 1) wNil)) rowB) (wRet [0, 2] (wBlt gTuple (wCons (wVar 8) wNil)))) (KsFn [0, 2] [.ow o, .fz (.int (w : Int)), .ow (.lst (rows.map rowD))] Q E) (some (.ow o1) :: R10 w rows (some (.fz (.int way))) none none none (some (.fz (.int (S : Int)))) none none none) := fun S hS => by
        have h12 : Spn w ≤ 10 ^ 12 := by unfold Spn; split <;> decide
        refine seq_k fun K2 hn2 _ _ _ _ => run_setO (ev_lst (ds := []) evl_nil (Nat.zero_le _)) (hn2 _ ?_)
        change wSeq _ _ _ (some (.ow o1) :: R10 w rows (some (.fz (.int way))) none none none (some (.fz (.int (S : Int)))) (some (.ow (.lst (([] : List Int).map D.int)))) none none)
        refine seq_k fun K3 hn3 _ _ _ _ => run_forR (n := w) (evl_cons (vx 1 rfl) evl_nil) (by omega) ?_
        refine row_lp (Nat.le_trans hS h12) w17 w 0 [] o1 (m + 1) none none (by omega) rfl (fun j => Nat.zero_le _) bg1 (by omega) fun xs o2 v9 v10 hx hxl b2 => hn3 _ ?_
        refine run_ret (d := rowD xs) (ev_bltS (o := .lst (xs.map D.int)) rfl fun Q' q => q) ?_
        refine fin _ xs o2 (1 + 2 * w) _ _ _ _ _ _ _ _ rfl ⟨hxl, fun j => Nat.le_trans (hx j) (Nat.le_trans hS ?_)⟩ (by rw [← Nat.add_assoc]; exact b2) (by omega)
        have := Bd_mono (w := w) (Nat.zero_le rows.length)
        unfold Bd at this ⊢
        rw [show min 0 4 = 0 by decide, Nat.pow_zero, Nat.mul_one] at this
        exact this
      have s5 : 5 ≤ Spn w := by unfold Spn; split <;> decide
      refine seq_k fun K2 hn2 _ _ _ _ => run_set (d := .int 5) ev_c (hn2 _ ?_)
      by_cases h5 : way = 5
      · refine seq_k fun K3 hn3 _ _ _ _ => run_if_t (by have := eq 5 (v4 := none) (v5 := none) (v6 := none) (v7 := some (.fz (.int 5))) (v8 := none) (v9 := none) (v10 := none); rw [decide_eq_true h5] at this; exact this) ?_
        refine seq_k fun K4 hn4 _ _ _ _ => run_set (d := .int 100) ev_c (hn4 _ ?_)
        by_cases h7 : w < 7
        · have pw : ∀ {v7}, EvR (some (.ow o1) :: R10 w rows (some (.fz (.int way))) none none none v7 none none none) (wOp2 gPow (wC (.int 10)) (wC (.int 12))) (.fz (.int ((10 ^ 12 : Nat) : Int))) (some (.ow o1) :: R10 w rows (some (.fz (.int way))) none none none v7 none none none) := ev_op cx cx fun Q' q => by
            rw [gPow_ii]; exact ⟨⟨by decide, by decide, by decide⟩, q⟩
          exact run_if_t (evt_B (k := true) (ev_lti (vx 1 rfl) cx (decide_eq_true (by omega)))) (run_set pw (hn3 _ (body (10 ^ 12) (by unfold Spn; rw [if_pos h7]; exact Nat.le_refl _))))
        · exact run_if_f (evt_B (k := false) (ev_lti (vx 1 rfl) cx (decide_eq_false (by omega)))) (hn3 _ (body 100 (by unfold Spn; rw [if_neg h7]; exact Nat.le_refl _)))
      · refine sk_f (by have := eq 5 (v4 := none) (v5 := none) (v6 := none) (v7 := some (.fz (.int 5))) (v8 := none) (v9 := none) (v10 := none); rw [decide_eq_false h5] at this; exact this) ?_
        exact body 5 s5
    by_cases hr : rows = []
    · have ef : (!(rows.map rowD).isEmpty) = false := by rw [hr]; rfl
      rw [ef] at tr
      have no : ∀ k : Int, EvT (some (.ow o1) :: R10 w rows (some (.fz (.int way))) none none none none none none none) (wtAnd (wB (wOp2 gEq (wVar 3) (wC (.int k)))) (wTru (wVar 2))) false (some (.ow o1) :: R10 w rows (some (.fz (.int way))) none none none none none none none) := fun k => by
        have := eq k (v4 := none) (v5 := none) (v6 := none) (v7 := none) (v8 := none) (v9 := none) (v10 := none)
        cases hd : decide (way = k) with
        | true => rw [hd] at this; exact evt_and_t this tr
        | false => rw [hd] at this; exact evt_and_f this
      exact sk_f (no 7) (sk_f (no 6) (tail (.inr hr) (.inr hr)))
    · have et : (!(rows.map rowD).isEmpty) = true := by cases rows with
        | nil => exact absurd rfl hr
        | cons a l => rfl
      rw [et] at tr
      have yes : ∀ k : Int, EvT (some (.ow o1) :: R10 w rows (some (.fz (.int way))) none none none none none none none) (wtAnd (wB (wOp2 gEq (wVar 3) (wC (.int k)))) (wTru (wVar 2))) (decide (way = k)) (some (.ow o1) :: R10 w rows (some (.fz (.int way))) none none none none none none none) := fun k => by
        have := eq k (v4 := none) (v5 := none) (v6 := none) (v7 := none) (v8 := none) (v9 := none) (v10 := none)
        cases hd : decide (way = k) with
        | true => rw [hd] at this; exact evt_and_t this tr
        | false => rw [hd] at this; exact evt_and_f this
      by_cases h7 : way = 7
      · have y := yes 7
        rw [decide_eq_true h7] at y
        refine sk_t y fun K' hr' _ => ?_
        refine seq_k fun K2 hn2 hr2 _ _ _ => b_set (i := 3) (b_pickR hg hl hr) bg1 (by omega) fun d o2 ⟨a, i, e, hi, ha⟩ bg2 => hn2 _ ?_
        subst e
        refine b_ret (sm (a := a) (b := a) (c := 0 + (1 + (0 + (0 + 0)))) (bl_w (bl_cons (b_frz (b_var 3 rfl (P := fun d => d = rowD a) rfl)) (bl_cons (b_frz b_seven) (bl_cons (b_frz (b_var 3 rfl (P := fun d => d = rowD a) rfl)) (bl_cons (b_c (P := fun d => d = .int 0) rfl) bl_nil)))) fun ds ⟨d1, t1, e1, f1, d2, t2, e2, ⟨x, ex, hx⟩, d3, t3, e3, f3, d4, t4, e4, f4, e5⟩ => by
          subst e1 e2 e3 e4 e5 f1 ex f3 f4
          exact ⟨x, 0, rfl, hx, by decide⟩) hi hi ha ha) bg2 (by omega) fun d o3 ⟨r, e, hrb⟩ b3 => ?_
        subst e
        exact fin _ r o3 3 _ _ _ _ _ _ _ _ hr' hrb (b3.mono (by omega)) (by decide)
      · have y := yes 7
        rw [decide_eq_false h7] at y
        refine sk_f y ?_
        by_cases h6 : way = 6
        · have y := yes 6
          rw [decide_eq_true h6] at y
          refine sk_t y fun K' hr' _ => ?_
          refine seq_k fun K2 hn2 hr2 _ _ _ => b_set (i := 3) (b_pickR hg hl hr) bg1 (by omega) fun d o2 ⟨a, i, e, hi, ha⟩ bg2 => hn2 _ ?_
          subst e
          refine seq_k fun K3 hn3 _ _ _ _ => b_set (i := 4) b_seven bg2 (by omega) fun d o3 ⟨f, e, hf⟩ bg3 => hn3 _ ?_
          subst e
          refine seq_k fun K4 hn4 _ _ _ _ => b_set (i := 5) (b_pickR hg hl hr) bg3 (by omega) fun d o4 ⟨b, j, e, hj, hb⟩ bg4 => hn4 _ ?_
          subst e
          refine b_ret (sm (a := a) (b := b) (c := 0 + (0 + (0 + (1 + 0)))) (bl_w (bl_cons (b_frz (b_var 3 rfl (P := fun d => d = rowD a) rfl)) (bl_cons (b_frz (b_var 4 rfl (P := fun d => d = .int f) rfl)) (bl_cons (b_frz (b_var 5 rfl (P := fun d => d = rowD b) rfl)) (bl_cons (b_frz b_seven) bl_nil)))) fun ds ⟨d1, t1, e1, f1, d2, t2, e2, f2, d3, t3, e3, f3, d4, t4, e4, ⟨x, ex, hx⟩, e5⟩ => by
            subst e1 e2 e3 e4 e5 f1 f2 f3 ex
            exact ⟨f, x, rfl, hf, hx⟩) hi hj ha hb) bg4 (by omega) fun d o5 ⟨r, e, hrb⟩ b5 => ?_
          subst e
          exact fin _ r o5 5 _ _ _ _ _ _ _ _ hr' hrb (b5.mono (by omega)) (by decide)
        · have y := yes 6
          rw [decide_eq_false h6] at y
          exact sk_f y (tail (.inl h7) (.inl h6))
end LV
namespace LV
open PySem PySem.Spec L2
def S__law_width : FSpec := fun args Q _ => ∃ (o : O) (m : Nat), args = [.ow o] ∧ BagOk o (m : Int) ∧ m + 2 ≤ 100000 ∧ ∀ (w : Nat) o', 1 ≤ w → w ≤ 17 → BagOk o' ((m + 2 : Nat) : Int) → Q (.fz (.int (w : Int))) [.ow o']
theorem mS__law_width : MonoF S__law_width := ⟨fun h _ ⟨o, m, a, b, c, q⟩ => ⟨o, m, a, b, c, fun x y h1 h2 h3 => h _ _ (q x y h1 h2 h3)⟩⟩
theorem kp__law_width : Keeps S__law_width [0] 1 2 (w__law_width S__law_take) where
  fit := fun args Q E ⟨_, _, a, _⟩ => a ▸ fitO1
  run := fun args Q E ⟨o, m, e, bg, hm, q⟩ => by
    subst e
    unfold w__law_width
    have sz := sizeLine_eq
    change wSeq _ _ _ [some (.ow o), none]
    have pk : EvB [none] (wOp2 gIx (wLst (wCons (wC (.int 2)) (wCons (wC (.int 3)) (wCons (wC (.int 4)) (wCons (wC (.int 3)) (wCons (wC (.int 5)) (wCons (wC (.int 6)) (wCons (wC (.int 1)) (wCons (wC (.int 17)) wNil))))))))) (wCall S__law_take (wCons (wVar 0) (wCons (wC (.int 8)) wNil)))) (fun d => ∃ w : Nat, d = .int (w : Int) ∧ 1 ≤ w ∧ w ≤ 17) (0 + 1) :=
      b_pick (k := 8) (PL := fun ds => ds = [.int 2, .int 3, .int 4, .int 3, .int 5, .int 6, .int 1, .int 17]) (bl_const fun o => evl_cons cx (evl_cons cx (evl_cons cx (evl_cons cx (evl_cons cx (evl_cons cx (evl_cons cx (evl_cons cx evl_nil)))))))) (bDr _ 8) (fun ds e => by rw [e]; rfl) (by decide) fun ds d e hd => by
        rw [e] at hd
        simp only [List.mem_cons, List.not_mem_nil, or_false] at hd
        rcases hd with rfl | rfl | rfl | rfl | rfl | rfl | rfl | rfl
        · exact ⟨2, rfl, by decide, by decide⟩
        · exact ⟨3, rfl, by decide, by decide⟩
        · exact ⟨4, rfl, by decide, by decide⟩
        · exact ⟨3, rfl, by decide, by decide⟩
        · exact ⟨5, rfl, by decide, by decide⟩
        · exact ⟨6, rfl, by decide, by decide⟩
        · exact ⟨1, rfl, by decide, by decide⟩
        · exact ⟨17, rfl, by decide, by decide⟩
    refine seq_k fun K1 hn1 _ _ _ _ => b_set (i := 0) pk bg (by omega) fun d o1 ⟨w, e, w1, w17⟩ bg1 => hn1 _ ?_
    subst e
    change wSeq _ _ _ [some (.ow o1), some (.fz (.int (w : Int)))]
    by_cases h : w = 17
    · refine seq_k fun K2 hn2 _ _ _ _ => run_if_t (evt_B (k := true) (ev_eqi' (vx 1 rfl) cx (decide_eq_true (by omega)))) ?_
      have sb : EvB [some (.fz (.int (w : Int)))] (wOp2 gSub (wC (.int 17)) (wCall S__law_take (wCons (wVar 0) (wCons (wC (.int 11)) wNil)))) (fun d => ∃ v : Nat, d = .int (v : Int) ∧ 1 ≤ v ∧ v ≤ 17) (0 + 1) :=
        b_op (b_c (P := fun d => d = .int 17) rfl) (bDr _ 11) fun a b ea ⟨y, e, y0, y1⟩ Q' q => by
          subst ea e
          rw [gSub_ii]
          exact q _ ⟨(17 - y).toNat, by congr 1; omega, by omega, by omega⟩
      refine b_set (i := 0) sb bg1 (by omega) fun d o2 ⟨v, e, v1, v17⟩ bg2 => hn2 _ ?_
      subst e
      exact run_ret (d := .int (v : Int)) (ev_var rfl) ⟨_, rfl, q v o2 v1 v17 (bg2.mono (by omega))⟩
    · refine sk_f (evt_B (k := false) (ev_eqi' (vx 1 rfl) cx (decide_eq_false (by omega)))) ?_
      exact run_ret (d := .int (w : Int)) (ev_var rfl) ⟨_, rfl, q w o1 w1 w17 (bg1.mono (by omega))⟩
section
variable {env : En} {w w1 : EW} {S : FSpec} {o1 o2 : O} {i j : Nat} {d : D} {Q : Rv → En → Prop} {E : XW}
theorem valOf_o {env : En} {i : Nat} {o : O} (h : env[i]? = some (some (.ow o))) (hn : ∀ xs, o ≠ .nst xs) : valOf env (.sl i) = some (.ow o) := by
  cases o <;> first | exact absurd rfl (hn _) | simp only [valOf, h]
theorem fz_ow {env : En} {i : Nat} {o : O} {Q : Rv → En → Prop} {E : XW} (h : env[i]? = some (some (.ow o))) (q : Q (.sl i) env) : wFz (wVar i) env Q E := by
  unfold wFz
  simp only [wVar, h]
  exact q
theorem call_b3 (mS : MonoF S) (n1 : ∀ xs, o1 ≠ .nst xs) (n2 : ∀ xs, o2 ≠ .nst xs) (hij : i ≠ j) (h1 : env[i]? = some (some (.ow o1))) (h2 : env[j]? = some (some (.ow o2))) (hm : Ev env w d env)
    (q : S [.ow o1, .fz d, .ow o2] (fun r as => ∃ a b, as = [.ow a, .fz d, .ow b] ∧ (∀ i, r ≠ .sl i) ∧ Q r ((env.set j (some (.ow b))).set i (some (.ow a)))) fun _ _ => False) : wCall S (wCons (wVar i) (wCons w (wCons (wVar j) wNil))) env Q E := by
  unfold wCall
  refine fz_ow h1 (hm.go (Q := fun r2 e2 => wFz (wVar j) e2 (fun r3 e3 => _) E) (fz_ow h2 ?_))
  refine ⟨[.ow o1, .fz d, .ow o2], ?_, ?_, mS.mo (fun r as ⟨a, b, e, n, z⟩ => ?_) (fun x as z => z.elim) q⟩
  · show (match valOf env (.sl i), valL env [.fz d, .sl j] with | some a, some as => some (a :: as) | _, _ => none) = _
    rw [valOf_o h1 n1]
    show (match some (Val.ow o1), (match valOf env (.fz d), valL env [.sl j] with | some a, some as => some (a :: as) | _, _ => none) with | some a, some as => some (a :: as) | _, _ => none) = _
    show (match some (Val.ow o1), (match some (Val.fz d), (match valOf env (.sl j), valL env [] with | some a, some as => some (a :: as) | _, _ => none) with | some a, some as => some (a :: as) | _, _ => none) with | some a, some as => some (a :: as) | _, _ => none) = _
    rw [valOf_o h2 n2]; rfl
  · show ([i, j] : List Nat).Nodup
    exact List.nodup_cons.mpr ⟨by simpa using hij, List.nodup_cons.mpr ⟨fun z => (nomatch z), .nil⟩⟩
  · subst e
    exact ⟨rfl, n, z⟩
theorem run_retP {pn : List Nat} {i : Nat} {K : Ks} {env : En} {o : O} (hi : i ∉ pn) (h : env[i]? = some (some (.ow o))) (q : K.rt (.ow o) (env.set i none)) : wRet pn (wVar i) K env := by
  unfold wRet
  simp only [wVar, h]
  show retR pn (.sl i) env K.rt
  simp only [retR, h, hi, if_false]
  exact q
theorem app_w {ds : List D} {K : Ks} {dm : D} (hi : env[i]? = some (some (.ow (.lst ds)))) (h : ∀ G : Rv → En → Prop, (∀ d e, e[i]? = some (some (.ow (.lst ds))) → (ds.length < 1000 → K.nx (e.set i (some (.ow (.lst (ds ++ [d])))))) → G (.fz d) e) → w env G K.ex) (hl : ds.length < 1000) : wApp i w K env := by
  have sz := sizeLine_eq
  unfold wApp
  refine ⟨⟨ds, hi⟩, ?_⟩
  unfold wFz
  exact h _ fun d e he z => ⟨ds, d, e, (fun z => nomatch z), rfl, he, by omega, z hl⟩
end
theorem lst_nn (ds : List D) : ∀ xs, O.lst ds ≠ .nst xs := fun _ z => by cases z
theorem good_app {w : Nat} {rows : List (List Int)} {r : List Int} (h : GoodR w rows) (hr : RBd w rows.length r) : GoodR w (rows ++ [r]) := fun i a ha => by
  by_cases z : i < rows.length
  · rw [List.getElem?_append_left z] at ha; exact h i a ha
  · by_cases k : i = rows.length
    · subst k
      rw [List.getElem?_append_right (Nat.le_refl _), Nat.sub_self] at ha
      cases ha
      exact hr
    · rw [List.getElem?_eq_none (by rw [List.length_append, List.length_singleton]; omega)] at ha; cases ha
abbrev E5r (N : D) (o : O) (w : Nat) (rows : List (List Int)) (v4 : Option Val) : En := [some (.fz N), some (.ow o), some (.fz (.int (w : Int))), some (.ow (.lst (rows.map rowD))), v4]
theorem rows_lp1 {N : D} {w : Nat} {K : Ks} (w1 : 1 ≤ w) (w17 : w ≤ 17) : ∀ (j k : Nat) (rows : List (List Int)) (o : O) (m : Nat) (v4 : Option Val), GoodR w rows → rows.length + j ≤ 7 → BagOk o (m : Int) → m + 60 * j ≤ 100000 →
    (∀ rows o' v4, GoodR w rows → rows.length ≤ 7 → BagOk o' ((m + 60 * j : Nat) : Int) → K.nx (E5r N o' w rows v4)) →
    loopW (.n 4) (wApp 3 (wCall S__law_row (wCons (wVar 1) (wCons (wFrz (wVar 2)) (wCons (wVar 3) wNil))))) yesK K (rngD (k : Int) j) (E5r N o w rows v4)
  | 0, k, rows, o, m, v4, hg, hl, bg, hm, hn => ⟨True.intro, hn rows o v4 hg (by omega) bg⟩
  | j + 1, k, rows, o, m, v4, hg, hl, bg, hm, hn => by
    refine ⟨True.intro, _, rfl, ?_⟩
    show wApp 3 _ _ (E5r N o w rows (some (.fz (.int (k : Int)))))
    refine app_w (dm := .non) (ds := rows.map rowD) rfl (fun G hG => ?_) (by rw [List.length_map]; omega)
    refine call_b3 mS__law_row (bag_nn bg) (lst_nn _) (by decide) rfl rfl (fx 2 rfl) ⟨o, m, w, rows, rfl, bg, by omega, w1, w17, by omega, hg, fun r o' hr b => ⟨o', .lst (rows.map rowD), rfl, (fun _ z => nomatch z), ?_⟩⟩
    refine hG _ _ rfl fun _ => ?_
    rw [show (k : Int) + 1 = ((k + 1 : Nat) : Int) by omega]
    have e : rows.map rowD ++ [rowD r] = (rows ++ [r]).map rowD := by rw [List.map_append]; rfl
    rw [e]
    exact rows_lp1 w1 w17 j (k + 1) (rows ++ [r]) o' (m + 60) _ (good_app hg hr) (by rw [List.length_append]; show rows.length + 1 + j ≤ 7; omega) b (by omega) fun rows o' v4 a b c => hn rows o' v4 a b (by rw [show m + 60 * (j + 1) = m + 60 + 60 * j by omega]; exact c)
theorem ev_bag {env e1 e2 : En} {wa wb : EW} {ns : List Int} {k : Nat} (ha : Ev env wa (.scr ns) e1) (hb : Ev e1 wb (.int (k : Int)) e2) (hk : k ≤ 15) (hz : ∀ z ∈ ns, Builtin.Int.intBits z ≤ 1048576) {Q : Rv → En → Prop} {E : XW} (q : ∀ o, BagOk o 0 → Q (.ow o) e2) : wCall S__law_bag (wCons wa (wCons wb wNil)) env Q E :=
  call_both (ds := [.scr ns, .int (k : Int)]) mS__law_bag (evl_cons ha (evl_cons hb evl_nil)) ⟨ns, k, rfl, hk, hz, fun o bg => ⟨rfl, (fun _ z => nomatch z), q o bg⟩⟩
theorem callT_3' {env : En} {w w1 : EW} {S : FSpec} {o2 : O} {j : Nat} {d : D} {Q : Rv → En → Prop} {E : XW} (mS : MonoF S) (n2 : ∀ xs, o2 ≠ .nst xs) {PO : O → Prop} (hP : ∀ o, PO o → ∀ xs, o ≠ .nst xs) (h1 : ∀ {Q : Rv → En → Prop} {E : XW}, (∀ o, PO o → Q (.ow o) env) → w1 env Q E) (h2 : env[j]? = some (some (.ow o2))) (hm : Ev env w d env)
    (q : ∀ o1, PO o1 → S [.ow o1, .fz d, .ow o2] (fun r as => ∃ a b, as = [.ow a, .fz d, .ow b] ∧ (∀ i, r ≠ .sl i) ∧ Q r (env.set j (some (.ow b)))) fun _ _ => False) : wCallT S w1 (wCons w (wCons (wVar j) wNil)) env Q E := by
  unfold wCallT
  refine h1 fun o1 p1 => ⟨o1, rfl, hP o1 p1, ?_⟩
  refine hm.go (Q := fun r2 e2 => wFz (wVar j) e2 (fun r3 e3 => _) E) (fz_ow h2 ?_)
  refine ⟨[.fz d, .ow o2], ?_, ?_, mS.mo (fun r as ⟨a, b, e, n, z⟩ => ?_) (fun x as z => z.elim) (q o1 p1)⟩
  · show (match some (Val.fz d), (match valOf env (.sl j), valL env [] with | some a, some as => some (a :: as) | _, _ => none) with | some a, some as => some (a :: as) | _, _ => none) = _
    rw [valOf_o h2 n2]; rfl
  · show ([j] : List Nat).Nodup
    exact List.nodup_cons.mpr ⟨fun z => (nomatch z), .nil⟩
  · subst e
    exact ⟨.ow a, [.fz d, .ow b], rfl, rfl, n, z⟩
theorem rows_lp2 {ns : List Int} {w : Nat} {o : O} {K : Ks} (hz : ∀ z ∈ ns, Builtin.Int.intBits z ≤ 1048576) (w1 : 1 ≤ w) (w17 : w ≤ 17) : ∀ (j k : Nat) (rows : List (List Int)) (v4 : Option Val), GoodR w rows → rows.length + j ≤ 20 → k + j ≤ 15 →
    (∀ rows v4, GoodR w rows → rows.length ≤ 20 → K.nx (E5r (.scr ns) o w rows v4)) →
    loopW (.n 4) (wApp 3 (wCallT S__law_row (wCall S__law_bag (wCons (wFrz (wVar 0)) (wCons (wFrz (wVar 4)) wNil))) (wCons (wFrz (wVar 2)) (wCons (wVar 3) wNil)))) yesK K (rngD (k : Int) j) (E5r (.scr ns) o w rows v4)
  | 0, k, rows, v4, hg, hl, hk, hn => ⟨True.intro, hn rows v4 hg (by omega)⟩
  | j + 1, k, rows, v4, hg, hl, hk, hn => by
    refine ⟨True.intro, _, rfl, ?_⟩
    show wApp 3 _ _ (E5r (.scr ns) o w rows (some (.fz (.int (k : Int)))))
    refine app_w (dm := .non) (ds := rows.map rowD) rfl (fun G hG => ?_) (by rw [List.length_map]; omega)
    refine callT_3' mS__law_row (lst_nn _) (PO := fun o => BagOk o 0) (fun o b => bag_nn b) (fun q => ev_bag (fx 0 rfl) (fx 4 rfl) (by omega) hz q) rfl (fx 2 rfl) fun o1 bg => ⟨o1, 0, w, rows, rfl, bg, by decide, w1, w17, by omega, hg, fun r o' hr b => ⟨o', .lst (rows.map rowD), rfl, (fun _ z => nomatch z), ?_⟩⟩
    refine hG _ _ rfl fun _ => ?_
    rw [show (k : Int) + 1 = ((k + 1 : Nat) : Int) by omega]
    have e : rows.map rowD ++ [rowD r] = (rows ++ [r]).map rowD := by rw [List.map_append]; rfl
    rw [e]
    exact rows_lp2 hz w1 w17 j (k + 1) (rows ++ [r]) _ (good_app hg hr) (by rw [List.length_append]; show rows.length + 1 + j ≤ 20; omega) (by omega) hn
def S__law_rows : FSpec := fun args Q _ => ∃ (ns : List Int) (o : O) (m w : Nat), args = [.fz (.scr ns), .ow o, .fz (.int (w : Int))] ∧ (∀ z ∈ ns, Builtin.Int.intBits z ≤ 1048576) ∧ ns.length ≤ 63 ∧ BagOk o (m : Int) ∧ m + 500 ≤ 100000 ∧ 1 ≤ w ∧ w ≤ 17 ∧ ∀ rows o', GoodR w rows → rows.length ≤ 20 → BagOk o' ((m + 500 : Nat) : Int) → Q (.ow (.lst (rows.map rowD))) [.fz (.scr ns), .ow o', .fz (.int (w : Int))]
theorem mS__law_rows : MonoF S__law_rows := ⟨fun h _ ⟨ns, o, m, w, a, b, c, d, e, f, g, q⟩ => ⟨ns, o, m, w, a, b, c, d, e, f, g, fun x y h1 h2 h3 => h _ _ (q x y h1 h2 h3)⟩⟩
theorem fitFO {o : O} {d d' : D} : ArgsFit [1] 3 [.fz d, .ow o, .fz d'] := ⟨rfl, fun j o h => by rcases j with _ | _ | _ | j <;> simp at h ⊢, fun j a C ks vs h => by rcases j with _ | _ | _ | j <;> simp at h⟩
theorem kp__law_rows : Keeps S__law_rows [1] 3 5 (w__law_rows S__law_take S__law_row S__law_bag) where
  fit := fun args Q E ⟨_, _, _, _, a, _⟩ => a ▸ fitFO
  run := fun args Q E ⟨ns, o, m, w, e, hz, hl, bg, hm, w1, w17, q⟩ => by
    subst e
    unfold w__law_rows
    have sz := sizeLine_eq
    change wSeq _ _ _ [some (.fz (.scr ns)), some (.ow o), some (.fz (.int (w : Int))), none, none]
    refine seq_k fun K1 hn1 _ _ _ _ => run_setO (ev_lst (ds := []) evl_nil (Nat.zero_le _)) (hn1 _ ?_)
    change wSeq _ _ _ (E5r (.scr ns) o w [] none)
    refine seq_k fun K2 hn2 _ _ _ _ => ?_
    change wFz (wCall S__law_take (wCons (wVar 1) (wCons (wC (.int 7)) wNil))) (E5r (.scr ns) o w [] none) (fun r e => wNil e (fun rs e2 => ∃ j, lookL e2 (r :: rs) = some [.int j] ∧ okR j ∧ loopW (.n 4) _ yesK K2 (rngD 0 j.toNat) e2) _) _
    unfold wFz
    refine call_bag (i := 1) (o := o) (ds := [.int 7]) mS__law_take (bag_nn bg) rfl (evl_cons cx evl_nil) rfl ⟨o, 7, (m : Int), rfl, bg, by decide, by decide, by omega, fun d o1 d0 d1 b1 => ⟨o1, rfl, (fun _ z => nomatch z), d, rfl, by unfold okR; omega, ?_⟩⟩
    obtain ⟨n, rfl⟩ := nat_of d0
    rw [Int.toNat_natCast]
    refine rows_lp1 w1 w17 n 0 [] o1 (m + 1) none (fun i r h => by simp at h) (by show 0 + n ≤ 7; omega) b1 (by omega) fun rows o2 v4 hg hl2 b2 => hn2 _ ?_
    have mn : ∀ {v4}, EvL (E5r (.scr ns) o2 w rows v4) (wCons (wC (.int 2)) (wCons (wBlt gMin2 (wCons (wC (.int 14)) (wCons (wBlt gLen (wCons (wVar 0) wNil)) wNil))) wNil)) [.int ((2 : Nat) : Int), .int ((min 14 ns.length : Nat) : Int)] (E5r (.scr ns) o2 w rows v4) := fun {v4} => by
      have ln : EvR (E5r (.scr ns) o2 w rows v4) (wBlt gLen (wCons (wVar 0) wNil)) (.fz (.int (ns.length : Int))) (E5r (.scr ns) o2 w rows v4) := ev_blt (evl_cons (vx 0 rfl) evl_nil) fun Q' q => q
      refine evl_cons cx (evl_cons (ev_blt (g := gMin2) (r := .fz (.int ((min 14 ns.length : Nat) : Int))) (evl_cons cx (evl_cons ln.fz evl_nil)) fun Q' q => ?_).fz evl_nil)
      rw [gMin2_ii, show (if (ns.length : Int) < 14 then (ns.length : Int) else 14) = ((min 14 ns.length : Nat) : Int) by split <;> omega]
      exact q
    refine seq_k fun K3 hn3 _ _ _ _ => run_forR2 mn (by decide) (by omega) rfl ?_
    have ej : (((min 14 ns.length : Nat) : Int) - ((2 : Nat) : Int)).toNat = min 14 ns.length - 2 := by omega
    rw [ej]
    refine rows_lp2 hz w1 w17 (min 14 ns.length - 2) 2 rows v4 hg (by omega) (by omega) fun rows v4 hg hl3 => hn3 _ ?_
    exact run_retP (i := 3) (by decide) rfl ⟨_, rfl, q rows o2 hg hl3 (b2.mono (by omega))⟩
end LV
set_option maxHeartbeats 400000
namespace LV
theorem HB.up {W C C' : Nat} {S : Vc → Prop} (h : HB W C S) (k : C ≤ C') : HB W C' S := fun n s a b c Z r d e f g i j => Nat.le_trans (h n s a b c Z r d e f g i j) k
theorem HB.sub {W C : Nat} {S T : Vc → Prop} (h : HB W C S) (k : ∀ v, T v → S v) : HB W C T := fun n s a b => h n s a fun i hi => k _ (b i hi)
def mB (w B : Nat) : Nat := w * ((2 * w * B) ^ (w - 1) * B)
/-- the greatest entry by width -/
def eB (w : Nat) : Nat := (if w < 7 then 10 ^ 12 else 100) * 6 ^ 4
theorem num1 : ∀ w, w < 18 → mB w (eB w) ≤ 2 ^ 376 := by decide +kernel
theorem eB_lt (w : Nat) : eB w < 2 ^ 60 := by
  unfold eB
  split <;> decide
theorem hb_rows {rows : List (List Int)} {w B : Nat} (hB : 1 ≤ B) (h : ∀ r, r ∈ rows → ∀ j, (fv r j).natAbs ≤ B) : HB w (mB w B) (S0 rows) ∧ HB w (mB w B) (RW rows) :=
  ⟨s0_bound hB h, hb_of hB fun v ⟨r, hr, e⟩ j => by rw [e]; exact h r hr j⟩
theorem span_num {w m A : Nat} (hm : m ≤ 17) (hA : A < 2 ^ 60) : (2 * 2 ^ 376) ^ m * A < 2 ^ 7000 := by
  have h1 : (2 * 2 ^ 376) ^ m ≤ (2 * 2 ^ 376) ^ 17 := Nat.pow_le_pow_right (by decide) hm
  have h2 : (2 * 2 ^ 376) ^ 17 * 2 ^ 60 < 2 ^ 7000 := by decide +kernel
  have h3 : (2 * 2 ^ 376) ^ m * A ≤ (2 * 2 ^ 376) ^ 17 * 2 ^ 60 := Nat.mul_le_mul h1 (by omega)
  omega
/-- what is cleared by small rows stays small -/
theorem span_small {w : Nat} {K : List (Nat × List Int)} {r : List Int} (hK : ∀ p, p ∈ K → p.2.length = w ∧ ∀ j, (fv p.2 j).natAbs ≤ 2 ^ 376) (hl : r.length = w) (hk : K.length ≤ 17) (hr : ∀ j, (fv r j).natAbs < 2 ^ 60) : ∀ m, m ≤ K.length → ∀ j, (fv (spanL (K.take m) r) j).natAbs < 2 ^ 7000 := fun m hm j => by
  have := spanL_abs (C := 2 ^ 376) (w := w) (Nat.one_le_two_pow) (K.take m) r (2 ^ 60 - 1) (fun p hp => hK p (List.mem_of_mem_take hp)) hl (fun j => by have := hr j; omega) j
  refine Nat.lt_of_le_of_lt this (span_num (w := w) ?_ (by omega))
  rw [List.length_take]; omega
end LV
namespace LV
def dotW (w : Nat) (u v : Vc) : Int := sumN w fun j => u j * v j
theorem dot_lin (w : Nat) (a b : Int) (u v x : Vc) : dotW w (fun j => a * u j + b * v j) x = a * dotW w u x + b * dotW w v x := by
  unfold dotW
  rw [← sumN_lin]
  exact sumN_congr fun j _ => by rw [Int.add_mul, Int.mul_assoc, Int.mul_assoc]
theorem dot_comm (w : Nat) (u v : Vc) : dotW w u v = dotW w v u := sumN_congr fun j _ => Int.mul_comm ..
theorem dot_smul (w : Nat) (a : Int) (u x : Vc) : dotW w (fun j => a * u j) x = a * dotW w u x := by
  have := dot_lin w a 0 u u x
  rw [show (fun j => a * u j + 0 * u j) = fun j => a * u j from funext fun j => by rw [Int.zero_mul, Int.add_zero], Int.zero_mul, Int.add_zero] at this
  exact this
theorem dot_sp {G : Vc → Prop} {w : Nat} {v : Vc} (h : ∀ g, G g → dotW w g v = 0) {g : Vc} (k : Sp G g) : dotW w g v = 0 := by
  induction k with
  | zero =>
    unfold dotW
    rw [sumN_congr (g := fun _ => 0) fun j _ => Int.zero_mul _]
    exact sumN_zero w
  | gen g => exact h _ g
  | lin a b _ _ i1 i2 => rw [dot_lin, i1, i2, Int.mul_zero, Int.mul_zero]; rfl
  | div t _ i =>
    rw [dot_smul] at i
    exact (Int.mul_eq_zero.mp i).resolve_left t
def Nul (w : Nat) (G : Vc → Prop) (v : Vc) : Prop := (∀ j, w ≤ j → v j = 0) ∧ ∀ g, G g → dotW w g v = 0
theorem Nul.sp {w : Nat} {G H : Vc → Prop} (h : ∀ v, H v → Nul w G v) {v : Vc} (k : Sp H v) : Nul w G v :=
  ⟨sp_sup (fun u hu => (h u hu).1) k, fun g hg => by
    rw [dot_comm]
    exact dot_sp (fun u hu => by rw [dot_comm]; exact (h u hu).2 g hg) k⟩
theorem sumN_two {f : Nat → Int} {k l : Nat} : ∀ {n : Nat}, k < n → l < n → k ≠ l → (∀ i, i < n → i ≠ k → i ≠ l → f i = 0) → sumN n f = f k + f l
  | 0, h, _, _, _ => absurd h (Nat.not_lt_zero _)
  | n + 1, hk, hl, hkl, hf => by
    show sumN n f + f n = f k + f l
    by_cases z : k = n
    · rw [z, sumN_one (n := n) (k := l) (by omega) fun i hi hil => hf i (by omega) (by omega) hil, Int.add_comm]
    · by_cases y : l = n
      · rw [y, sumN_one (n := n) (k := k) (by omega) fun i hi hik => hf i (by omega) hik (by omega)]
      · rw [sumN_two (n := n) (by omega) (by omega) hkl fun i hi h1 h2 => hf i (by omega) h1 h2, hf n (by omega) (fun e => z e.symm) (fun e => y e.symm), Int.add_zero]
/-- no pivot -/
def free (FP : List (List Int × Nat)) (q : Nat) : Prop := ∀ p, p ∈ FP → p.2 ≠ q
structure IsSol (FP : List (List Int × Nat)) (w : Nat) (L : Int) (q : Nat) (s : Vc) : Prop where
  at_ : s q = L
  pv : ∀ p, p ∈ FP → fv p.1 p.2 * s p.2 = -(fv p.1 q * L)
  off : ∀ j, j ≠ q → free FP j → s j = 0
  sup : ∀ j, w ≤ j → s j = 0
section
variable {rows : List (List Int)} {w : Nat} {FP : List (List Int × Nat)} {L : Int} {sol : Nat → Vc}
theorem piv_ne (hF : FrmOf rows w FP) {a b : List Int × Nat} (ha : a ∈ FP) (hb : b ∈ FP) (h : a.2 ≠ b.2) : fv a.1 b.2 = 0 := by
  obtain ⟨i, hi, rfl⟩ := List.getElem_of_mem ha
  obtain ⟨j, hj, rfl⟩ := List.getElem_of_mem hb
  have off := hF.frm.red.off
  unfold prF at off
  rw [List.pairwise_map] at off
  have off := List.pairwise_iff_getElem.mp off
  rcases Nat.lt_or_ge i j with z | z
  · exact (off i j hi hj z).1
  · rcases Nat.lt_or_eq_of_le z with k | k
    · exact (off j i hj hi k).2
    · subst k; exact absurd rfl h
theorem dot_form (hF : FrmOf rows w FP) {s : Vc} {q : Nat} (hq : q < w) (fq : free FP q) (hs : IsSol FP w L q s) {p : List Int × Nat} (hp : p ∈ FP) : dotW w (fv p.1) s = 0 := by
  unfold dotW
  rw [sumN_two (k := p.2) (l := q) (hF.lt p hp) hq (fq p hp) fun i hi h1 h2 => ?_]
  · rw [hs.pv p hp, hs.at_]; omega
  · by_cases z : free FP i
    · rw [hs.off i h2 z, Int.mul_zero]
    · have : ∃ a, a ∈ FP ∧ a.2 = i := by
        by_cases e : ∃ a, a ∈ FP ∧ a.2 = i
        · exact e
        · exact absurd (fun a ha k => e ⟨a, ha, k⟩) z
      obtain ⟨a, ha, rfl⟩ := this
      rw [piv_ne hF hp ha (fun k => h1 k.symm), Int.zero_mul]
theorem sol_null (hF : FrmOf rows w FP) {s : Vc} {q : Nat} (hq : q < w) (fq : free FP q) (hs : IsSol FP w L q s) : Nul w (RW rows) s :=
  ⟨hs.sup, fun g ⟨r, hr, e⟩ => by
    rw [e]
    exact dot_sp (G := InF (prF FP)) (fun v ⟨p, hp, ev⟩ => by
      obtain ⟨a, ha, rfl⟩ := prF_mem hp
      rw [ev]; exact dot_form hF hq fq hs ha) (hF.to r hr)⟩
/-- what is orthogonal is made of the solutions at the free places where it is not nought -/
theorem null_sp (hF : FrmOf rows w FP) (hL : L ≠ 0) (hs : ∀ q, q < w → free FP q → IsSol FP w L q (sol q)) {v : Vc} (hv : Nul w (RW rows) v) (T : Nat → Prop) (hT : ∀ q, q < w → free FP q → v q ≠ 0 → T q) : Sp (fun u => ∃ q, q < w ∧ free FP q ∧ T q ∧ u = sol q) v := by
  have dec : ∀ q, Decidable (free FP q ∧ T q) := fun q => Classical.propDecidable _
  let s : Nat → Vc := fun q => if (free FP q ∧ T q) then sol q else fun _ => 0
  have sS : ∀ q, q < w → Sp (fun u => ∃ q, q < w ∧ free FP q ∧ T q ∧ u = sol q) (s q) := fun q hq => by
    show Sp _ (if (free FP q ∧ T q) then sol q else fun _ => 0)
    by_cases k : free FP q ∧ T q
    · rw [if_pos k]; exact .gen ⟨q, hq, k.1, k.2, rfl⟩
    · rw [if_neg k]; exact .zero
  have hc : Sp (fun u => ∃ q, q < w ∧ free FP q ∧ T q ∧ u = sol q) fun j => sumN w fun q => v q * s q j := Sp.sum v sS
  -- the rest
  let x : Vc := fun j => L * v j + (-1) * sumN w fun q => v q * s q j
  have xN : Nul w (RW rows) x := by
    have h1 : Nul w (RW rows) fun j => sumN w fun q => v q * s q j := Nul.sp (fun u ⟨q, hq, fq, _, e⟩ => by rw [e]; exact sol_null hF hq fq (hs q hq fq)) hc
    have h2 : Sp (fun u => u = v ∨ u = fun j => sumN w fun q => v q * s q j) x := Sp.lin L (-1) (.gen (.inl rfl)) (.gen (.inr rfl))
    exact Nul.sp (fun u hu => by
      rcases hu with rfl | rfl
      · exact hv
      · exact h1) h2
  have xf : ∀ q0, q0 < w → free FP q0 → x q0 = 0 := fun q0 h0 f0 => by
    show L * v q0 + (-1) * sumN w (fun q => v q * s q q0) = 0
    rw [sumN_one (k := q0) h0 fun q hq hne => ?_]
    · show L * v q0 + (-1) * (v q0 * (if (free FP q0 ∧ T q0) then sol q0 else fun _ => 0) q0) = 0
      by_cases k : T q0
      · rw [if_pos ⟨f0, k⟩, (hs q0 h0 f0).at_, Int.mul_comm]; omega
      · have : v q0 = 0 := by
          by_cases z : v q0 = 0
          · exact z
          · exact absurd (hT q0 h0 f0 z) k
        rw [this, Int.zero_mul, Int.mul_zero]; rfl
    · show v q * (if (free FP q ∧ T q) then sol q else fun _ => 0) q0 = 0
      by_cases k : free FP q ∧ T q
      · rw [if_pos k, (hs q hq k.1).off q0 (fun e => hne e.symm) f0, Int.mul_zero]
      · rw [if_neg k, Int.mul_zero]
  have x0 : ∀ j, x j = 0 := fun j => by
    by_cases hj : j < w
    · by_cases z : free FP j
      · exact xf j hj z
      · have : ∃ a, a ∈ FP ∧ a.2 = j := by
          by_cases e : ∃ a, a ∈ FP ∧ a.2 = j
          · exact e
          · exact absurd (fun a ha k => e ⟨a, ha, k⟩) z
        obtain ⟨a, ha, rfl⟩ := this
        have d : dotW w (fv a.1) x = 0 := dot_sp xN.2 (hF.of _ ⟨_, mem_prF ha, rfl⟩)
        unfold dotW at d
        rw [sumN_one (k := a.2) hj fun i hi hia => ?_] at d
        · exact (Int.mul_eq_zero.mp d).resolve_left (hF.frm.red.ne _ (mem_prF ha))
        · by_cases z2 : free FP i
          · rw [xf i hi z2, Int.mul_zero]
          · have : ∃ b, b ∈ FP ∧ b.2 = i := by
              by_cases e : ∃ b, b ∈ FP ∧ b.2 = i
              · exact e
              · exact absurd (fun a ha k => e ⟨a, ha, k⟩) z2
            obtain ⟨b, hb, rfl⟩ := this
            rw [piv_ne hF ha hb (fun k => hia k.symm), Int.zero_mul]
    · exact xN.1 j (by omega)
  exact .div hL (hc.congr fun j => by
    have : L * v j + (-1) * (sumN w fun q => v q * s q j) = 0 := x0 j
    omega)
end
theorem nd_sub {α : Type} : ∀ (Q l : List α), Q.Nodup → (∀ x, x ∈ Q → x ∈ l) → Q.length ≤ l.length
  | [], l, _, _ => Nat.zero_le _
  | x :: Q, l, hn, hs => by
    rw [List.nodup_cons] at hn
    obtain ⟨a, b, rfl⟩ := List.append_of_mem (hs x List.mem_cons_self)
    have := nd_sub Q (a ++ b) hn.2 fun y hy => by
      rcases List.mem_append.mp (hs y (List.mem_cons_of_mem _ hy)) with z | z
      · exact List.mem_append.mpr (.inl z)
      · rcases List.mem_cons.mp z with z | z
        · rw [z] at hy; exact absurd hy hn.1
        · exact List.mem_append.mpr (.inr z)
    rw [List.length_append] at this
    rw [List.length_append, List.length_cons, List.length_cons]
    omega
theorem filt_two {α : Type} (p : α → Bool) : ∀ l : List α, (l.filter p).length + (l.filter fun x => !p x).length = l.length
  | [] => rfl
  | x :: l => by
    have := filt_two p l
    rw [List.filter_cons, List.filter_cons, List.length_cons]
    cases p x with
    | true => simp only [Bool.not_true, if_true, Bool.false_eq_true, if_false, List.length_cons]; omega
    | false => simp only [Bool.not_false, if_true, Bool.false_eq_true, if_false, List.length_cons]; omega
def isPiv (FP : List (List Int × Nat)) (q : Nat) : Bool := FP.any fun p => p.2 == q
theorem isPiv_free {FP : List (List Int × Nat)} {q : Nat} : isPiv FP q = false ↔ free FP q := by
  unfold isPiv free
  rw [List.any_eq_false]
  constructor
  · intro h p hp e; exact h p hp (by rw [e]; exact beq_self_eq_true _)
  · intro h p hp e; exact h p hp (beq_iff_eq.mp e)
/-- the free places below w -/
def frees (FP : List (List Int × Nat)) (w : Nat) : List Nat := (List.range w).filter fun q => !isPiv FP q
theorem mem_frees {FP : List (List Int × Nat)} {w q : Nat} : q ∈ frees FP w ↔ q < w ∧ free FP q := by
  unfold frees
  rw [List.mem_filter, List.mem_range, ← isPiv_free, Bool.not_eq_true']
theorem piv_nodup {rows : List (List Int)} {w : Nat} {FP : List (List Int × Nat)} (hF : FrmOf rows w FP) : (FP.map (·.2)).Nodup := by
  have asc := hF.frm.asc
  unfold prF at asc
  rw [List.pairwise_map] at asc
  unfold List.Nodup
  rw [List.pairwise_map]
  exact asc.imp fun {a b} h => Nat.ne_of_lt h
theorem frees_len {rows : List (List Int)} {w : Nat} {FP : List (List Int × Nat)} (hF : FrmOf rows w FP) : (frees FP w).length + FP.length = w := by
  have h1 := filt_two (isPiv FP) (List.range w)
  rw [List.length_range] at h1
  have h2 : (FP.map (·.2)).length ≤ ((List.range w).filter (isPiv FP)).length := nd_sub _ _ (piv_nodup hF) fun q hq => by
    obtain ⟨p, hp, rfl⟩ := List.mem_map.mp hq
    refine List.mem_filter.mpr ⟨List.mem_range.mpr (hF.lt p hp), ?_⟩
    unfold isPiv
    exact List.any_eq_true.mpr ⟨p, hp, beq_self_eq_true _⟩
  have h3 : ((List.range w).filter (isPiv FP)).length ≤ (FP.map (·.2)).length := nd_sub _ _ (List.nodup_range.filter _) fun q hq => by
    obtain ⟨_, h⟩ := List.mem_filter.mp hq
    unfold isPiv at h
    obtain ⟨p, hp, e⟩ := List.any_eq_true.mp h
    rw [← beq_iff_eq.mp e]
    exact List.mem_map.mpr ⟨p, hp, rfl⟩
  rw [List.length_map] at h2 h3
  unfold frees
  omega
theorem hb_null {rows : List (List Int)} {w B k : Nat} {FP : List (List Int × Nat)} {L : Int} {sol : Nat → Vc} {s0 : Nat → Vc} (hF : FrmOf rows w FP) (hL : L ≠ 0) (hs : ∀ q, q < w → free FP q → IsSol FP w L q (sol q))
    (bas : Bas (S0 rows) k s0 (prF FP)) (hB : 1 ≤ B) (hr : ∀ r, r ∈ rows → ∀ j, (fv r j).natAbs ≤ B) (S : Vc → Prop) (hS : ∀ v, S v → ∃ q, q < w ∧ free FP q ∧ ∃ t : Int, t ≠ 0 ∧ ∀ j, sol q j = t * v j) : HB w ((2 * w * B) ^ (w - 1)) S := fun n s hn hsS hi Z r hZ hrS hrz pr line => by
  -- the free place of each
  have ch : ∀ i, ∃ q, i < n → q < w ∧ free FP q ∧ ∃ t : Int, t ≠ 0 ∧ ∀ j, sol q j = t * s i j := fun i => by
    by_cases h : i < n
    · obtain ⟨q, h1⟩ := hS (s i) (hsS i h)
      exact ⟨q, fun _ => h1⟩
    · exact ⟨0, fun k => absurd k h⟩
  let qf : Nat → Nat := fun i => (ch i).choose
  have hqf : ∀ i, i < n → qf i < w ∧ free FP (qf i) ∧ ∃ t : Int, t ≠ 0 ∧ ∀ j, sol (qf i) j = t * s i j := fun i h => (ch i).choose_spec h
  have inj : ∀ i, i < n → ∀ j, j < n → i ≠ j → qf i ≠ qf j := fun i hi' j hj' hij e => by
    obtain ⟨_, _, t1, ht1, e1⟩ := hqf i hi'
    obtain ⟨_, _, t2, ht2, e2⟩ := hqf j hj'
    have := hi (fun m => if m = i then t1 else if m = j then -t2 else 0) (fun l => by
      rw [sumN_two (k := i) (l := j) hi' hj' hij fun m _ h1 h2 => by rw [if_neg h1, if_neg h2, Int.zero_mul]]
      rw [if_pos rfl, if_neg (fun z => hij z.symm), if_pos rfl, ← e1 l, e, e2 l, Int.neg_mul]; omega) i hi'
    rw [if_pos rfl] at this
    exact ht1 this
  let Q : List Nat := (List.range n).map qf
  have Qn : Q.Nodup := by
    show (List.map _ _).Nodup
    unfold List.Nodup
    rw [List.pairwise_map]
    exact (List.pairwise_lt_range (n := n)).imp_of_mem fun {a b} ha hb hab => inj a (List.mem_range.mp ha) b (List.mem_range.mp hb) (by omega)
  have Ql : Q.length = n := by show (List.map _ _).length = n; rw [List.length_map, List.length_range]
  have Qf : ∀ x, x ∈ Q → x ∈ frees FP w := fun x hx => by
    obtain ⟨i, hi', rfl⟩ := List.mem_map.mp hx
    obtain ⟨h1, h2, _⟩ := hqf i (List.mem_range.mp hi')
    exact mem_frees.mpr ⟨h1, h2⟩
  let Y : List Nat := (frees FP w).filter fun q => !Q.contains q
  have Yl : Y.length + n ≤ w - FP.length := by
    have h1 := filt_two (fun q => Q.contains q) (frees FP w)
    have h2 : Q.length ≤ ((frees FP w).filter fun q => Q.contains q).length := nd_sub _ _ Qn fun x hx => List.mem_filter.mpr ⟨Qf x hx, List.contains_iff_mem.mpr hx⟩
    have h3 := frees_len hF
    show ((frees FP w).filter _).length + n ≤ _
    omega
  have kl : k = FP.length := by
    have := bas.len
    unfold prF at this
    rw [List.length_map] at this
    exact this.symm
  have nw : FP.length + n ≤ w := by
    have h3 := frees_len hF
    have h2 := nd_sub _ _ Qn Qf
    omega
  -- the places where it vanishes
  let ZY : List Nat := Z ++ Y
  have zyl : k + ZY.length ≤ w - 1 := by
    show k + (Z ++ Y).length ≤ _
    rw [List.length_append]; omega
  let A : Nat → Nat → Int := fun i j => if i < k then s0 i j else if i < k + ZY.length then (if j = ZY.getD (i - k) 0 then 1 else 0) else 0
  have sB : ∀ i, i < k → ∀ j, (s0 i j).natAbs ≤ B := fun i hi' j => by
    obtain ⟨a, ha, e⟩ := bas.inS i hi'
    rw [e]; exact Nat.le_trans (simpL_abs a j) (hr a ha j)
  obtain ⟨c, ⟨i0, hi0, c0⟩, hc, he⟩ := siegel (m := w - 1) (n := w) (B := B) A (fun i _ j _ => by
    show (if i < k then s0 i j else if i < k + ZY.length then (if j = ZY.getD (i - k) 0 then 1 else 0) else 0 : Int).natAbs ≤ B
    split
    · exact sB i (by assumption) j
    · split
      · split
        · exact hB
        · exact Nat.zero_le _
      · exact Nat.zero_le _) (by
    have : 0 < w := by
      by_cases z : w = 0
      · omega
      · omega
    omega) hB
  let u : Vc := fun j => if j < w then c j else 0
  have uN : Nul w (RW rows) u := by
    have dt : ∀ i, i < k → dotW w (s0 i) u = 0 := fun i hi' => by
      have := he i (by omega)
      unfold dotW
      rw [← this]
      refine sumN_congr fun j hj => ?_
      show s0 i j * (if j < w then c j else 0) = (if i < k then s0 i j else _) * c j
      rw [if_pos hj, if_pos hi']
    exact ⟨fun j hj => if_neg (by omega), fun g ⟨a, ha, e⟩ => by
      rw [e]
      refine dot_sp (G := fun v => Sp (InS k s0) v) (fun g hg => dot_sp (fun v ⟨i, hi', ev⟩ => by rw [ev]; exact dt i hi') hg) (.gen ?_)
      exact (hF.to a ha).sub fun v ⟨p, hp, ev⟩ => by rw [ev]; exact bas.ofF p hp⟩
  have uZ : ∀ z, z ∈ ZY → u z = 0 := fun z hz => by
    obtain ⟨m, hm, rfl⟩ := List.getElem_of_mem hz
    by_cases hw : ZY[m] < w
    · have := he (k + m) (by omega)
      rw [sumN_one (k := ZY[m]) hw fun j hj hne => ?_] at this
      · have e : A (k + m) ZY[m] = 1 := by
          show (if k + m < k then _ else if k + m < k + ZY.length then (if ZY[m] = ZY.getD (k + m - k) 0 then 1 else 0) else 0 : Int) = 1
          rw [if_neg (by omega), if_pos (by omega), show k + m - k = m by omega, List.getD_eq_getElem?_getD, List.getElem?_eq_getElem hm, Option.getD_some, if_pos rfl]
        rw [e, Int.one_mul] at this
        show (if ZY[m] < w then c ZY[m] else 0) = 0
        rw [if_pos hw]; exact this
      · have e : A (k + m) j = 0 := by
          show (if k + m < k then _ else if k + m < k + ZY.length then (if j = ZY.getD (k + m - k) 0 then 1 else 0) else 0 : Int) = 0
          rw [if_neg (by omega), if_pos (by omega), show k + m - k = m by omega, List.getD_eq_getElem?_getD, List.getElem?_eq_getElem hm, Option.getD_some, if_neg hne]
        rw [e, Int.zero_mul]
    · exact if_neg hw
  have uT : Sp (InS n s) u := (null_sp hF hL hs uN (fun q => q ∈ Q) fun q hq fq hne => by
    by_cases z : q ∈ Q
    · exact z
    · exact absurd (uZ q (List.mem_append.mpr (.inr (List.mem_filter.mpr ⟨mem_frees.mpr ⟨hq, fq⟩, by
        rw [Bool.not_eq_true']
        exact Bool.eq_false_iff.mpr fun k => z (List.contains_iff_mem.mp k)⟩)))) hne).sub fun v ⟨q, hq, fq, hQ, e⟩ => by
    obtain ⟨i, hi', eq⟩ := List.mem_map.mp hQ
    obtain ⟨_, _, t, ht, et⟩ := hqf i (List.mem_range.mp hi')
    rw [e, ← eq]
    exact ((Sp.gen (G := InS n s) ⟨i, List.mem_range.mp hi', rfl⟩).smul t).congr fun j => (et j).symm
  obtain ⟨t, m, ht, e⟩ := line u uT fun z hz => uZ z (List.mem_append.mpr (.inl hz))
  have hm : m ≠ 0 := fun z => by
    have := e i0
    rw [z, Int.zero_mul] at this
    have h2 : u i0 = c i0 := if_pos hi0
    rw [h2] at this
    exact c0 ((Int.mul_eq_zero.mp this).resolve_left ht)
  intro j
  refine Nat.le_trans (pr.le ht hm e j) ?_
  show (if j < w then c j else 0 : Int).natAbs ≤ _
  split
  · exact hc j (by assumption)
  · exact Nat.zero_le _
end LV
namespace LV
theorem fv_set {l : List Int} {k : Nat} {x : Int} {j : Nat} : fv (l.set k x) j = if j = k ∧ k < l.length then x else fv l j := by
  unfold fv
  rw [List.getD_eq_getElem?_getD, List.getD_eq_getElem?_getD, List.getElem?_set]
  by_cases h : k = j
  · subst h
    rw [if_pos rfl]
    by_cases z : k < l.length
    · rw [if_pos z, if_pos ⟨rfl, z⟩]; rfl
    · rw [if_neg z, if_neg (fun y => z y.2), List.getElem?_eq_none (by omega)]
  · rw [if_neg h, if_neg (fun y => h y.1.symm)]
def solV (q : Nat) (L : Int) (p : List Int × Nat) : Int := -(fv p.1 q) * L.fdiv (fv p.1 p.2)
def solP (q : Nat) (L : Int) : List (List Int × Nat) → List Int → List Int
  | [], s => s
  | p :: l, s => solP q L l (s.set p.2 (solV q L p))
def sol0 (w q : Nat) (L : Int) : List Int := (List.replicate w (0 : Int)).set q L
def solR (FP : List (List Int × Nat)) (w : Nat) (L : Int) (q : Nat) : List Int := solP q L FP (sol0 w q L)
theorem solP_len {q : Nat} {L : Int} : ∀ (l : List (List Int × Nat)) (s : List Int), (solP q L l s).length = s.length
  | [], s => rfl
  | p :: l, s => by
    show (solP q L l _).length = _
    rw [solP_len l, List.length_set]
theorem sol0_len (w q : Nat) (L : Int) : (sol0 w q L).length = w := by unfold sol0; rw [List.length_set, List.length_replicate]
theorem solR_len (FP : List (List Int × Nat)) (w : Nat) (L : Int) (q : Nat) : (solR FP w L q).length = w := by unfold solR; rw [solP_len, sol0_len]
theorem solP_off {q : Nat} {L : Int} {j : Nat} : ∀ (l : List (List Int × Nat)) (s : List Int), (∀ p, p ∈ l → p.2 ≠ j) → fv (solP q L l s) j = fv s j
  | [], s, _ => rfl
  | p :: l, s, h => by
    show fv (solP q L l _) j = _
    rw [solP_off l _ fun a ha => h a (List.mem_cons_of_mem _ ha), fv_set, if_neg fun z => h p List.mem_cons_self z.1.symm]
theorem solP_at {q : Nat} {L : Int} : ∀ (l : List (List Int × Nat)) (s : List Int), (l.map (·.2)).Nodup → (∀ p, p ∈ l → p.2 < s.length) → ∀ p, p ∈ l → fv (solP q L l s) p.2 = solV q L p
  | [], s, _, _, p, hp => nomatch hp
  | a :: l, s, hn, hl, p, hp => by
    rw [List.map_cons, List.nodup_cons] at hn
    show fv (solP q L l _) p.2 = _
    rcases List.mem_cons.mp hp with rfl | hp
    · rw [solP_off l _ fun b hb z => hn.1 (by rw [← z]; exact List.mem_map.mpr ⟨b, hb, rfl⟩), fv_set, if_pos ⟨rfl, hl _ List.mem_cons_self⟩]
    · exact solP_at l _ hn.2 (fun b hb => by rw [List.length_set]; exact hl b (List.mem_cons_of_mem _ hb)) p hp
theorem fv_rep0 (w j : Nat) : fv (List.replicate w (0 : Int)) j = 0 := by
  by_cases z : j < (List.replicate w (0 : Int)).length
  · exact List.eq_of_mem_replicate (fv_in z)
  · exact fv_out (by omega)
theorem isSol {rows : List (List Int)} {w : Nat} {FP : List (List Int × Nat)} {L : Int} (hF : FrmOf rows w FP) (dv : ∀ p, p ∈ FP → fv p.1 p.2 ∣ L) {q : Nat} (hq : q < w) (fq : free FP q) : IsSol FP w L q (fv (solR FP w L q)) where
  at_ := by
    unfold solR sol0
    rw [solP_off FP _ fun p hp => fq p hp, fv_set, if_pos ⟨rfl, by rw [List.length_replicate]; exact hq⟩]
  pv := fun p hp => by
    unfold solR
    rw [solP_at FP _ (piv_nodup hF) (fun p hp => by rw [sol0_len]; exact hF.lt p hp) p hp]
    obtain ⟨c, hc⟩ := dv p hp
    have pos : 0 < fv p.1 p.2 := hF.frm.pos _ (mem_prF hp)
    have : L.fdiv (fv p.1 p.2) = c := by rw [hc, Int.mul_fdiv_cancel_left _ (by omega)]
    show fv p.1 p.2 * (-(fv p.1 q) * L.fdiv (fv p.1 p.2)) = _
    rw [this, hc, Int.mul_left_comm, Int.neg_mul]
  off := fun j hj fj => by
    unfold solR sol0
    rw [solP_off FP _ fun p hp => fj p hp, fv_set, if_neg (fun z => hj z.1), fv_rep0]
  sup := fun j hj => fv_out (by rw [solR_len]; exact hj)
def solsL (FP : List (List Int × Nat)) (w : Nat) (L : Int) : List (List Int) := (frees FP w).map (solR FP w L)
structure NullOf (rows sols : List (List Int)) (w r : Nat) : Prop where
  len : ∀ x, x ∈ sols → x.length = w
  sp : ∀ v, Sp (RW sols) v ↔ Nul w (RW rows) v
  rank : ∀ NP, FrmOf sols w NP → NP.length + r = w
theorem null_res {rows : List (List Int)} {w B n : Nat} {s0 : Nat → Vc} {FP : List (List Int × Nat)} {L : Int} (hF : FrmOf rows w FP) (bas : Bas (S0 rows) n s0 (prF FP)) (hB : 1 ≤ B) (hr : ∀ r, r ∈ rows → ∀ j, (fv r j).natAbs ≤ B) (hL : 0 < L) (dv : ∀ p, p ∈ FP → fv p.1 p.2 ∣ L) :
    NullOf rows (solsL FP w L) w FP.length ∧ HB w ((2 * w * B) ^ (w - 1)) (S0 (solsL FP w L)) := by
  have hs : ∀ q, q < w → free FP q → IsSol FP w L q (fv (solR FP w L q)) := fun q hq fq => isSol hF dv hq fq
  have L0 : L ≠ 0 := by omega
  refine ⟨⟨fun x hx => ?_, fun v => ⟨fun h => ?_, fun h => ?_⟩, fun NP hN => ?_⟩, ?_⟩
  · obtain ⟨q, hq, rfl⟩ := List.mem_map.mp hx
    exact solR_len ..
  · exact Nul.sp (fun u ⟨x, hx, e⟩ => by
      obtain ⟨q, hq, rfl⟩ := List.mem_map.mp hx
      obtain ⟨h1, h2⟩ := mem_frees.mp hq
      rw [e]; exact sol_null hF h1 h2 (hs q h1 h2)) h
  · exact (null_sp hF L0 hs h (fun _ => True) fun _ _ _ _ => trivial).sub fun u ⟨q, hq, fq, _, e⟩ => .gen ⟨_, List.mem_map.mpr ⟨q, mem_frees.mpr ⟨hq, fq⟩, rfl⟩, e⟩
  · let G : List (Vc × Nat) := (frees FP w).map fun q => (fv (solR FP w L q), q)
    have rG : Red G := ⟨by
      show (List.map _ _).Pairwise _
      rw [List.pairwise_map]
      have nd : (frees FP w).Nodup := List.nodup_range.filter _
      exact nd.imp_of_mem fun {a b} ha hb hab => by
        obtain ⟨a1, a2⟩ := mem_frees.mp ha
        obtain ⟨b1, b2⟩ := mem_frees.mp hb
        exact ⟨(hs a a1 a2).off b (fun z => hab z.symm) b2, (hs b b1 b2).off a hab a2⟩, fun p hp => by
      obtain ⟨q, hq, rfl⟩ := List.mem_map.mp hp
      obtain ⟨h1, h2⟩ := mem_frees.mp hq
      show fv (solR FP w L q) q ≠ 0
      rw [(hs q h1 h2).at_]; exact L0⟩
    have e1 : G.length ≤ (prF NP).length := rank_le rG hN.frm.red fun p hp => by
      obtain ⟨q, hq, rfl⟩ := List.mem_map.mp hp
      exact hN.to _ (List.mem_map.mpr ⟨q, hq, rfl⟩)
    have e2 : (prF NP).length ≤ G.length := rank_le hN.frm.red rG fun p hp => (hN.of p.1 ⟨p, hp, rfl⟩).sub fun u ⟨x, hx, e⟩ => by
      obtain ⟨q, hq, rfl⟩ := List.mem_map.mp hx
      rw [e]
      exact .gen ⟨_, List.mem_map.mpr ⟨q, hq, rfl⟩, rfl⟩
    have e3 := frees_len hF
    have e4 : G.length = (frees FP w).length := List.length_map ..
    have e5 : (prF NP).length = NP.length := List.length_map ..
    omega
  · refine hb_null hF L0 hs bas hB hr _ fun v ⟨x, hx, e⟩ => ?_
    obtain ⟨q, hq, rfl⟩ := List.mem_map.mp hx
    obtain ⟨h1, h2⟩ := mem_frees.mp hq
    obtain ⟨t, ht, et⟩ := simpL_mul (solR FP w L q)
    exact ⟨q, h1, h2, t, ht, fun j => by rw [e]; exact et j⟩
theorem form_split {rows : List (List Int)} {w : Nat} {FP : List (List Int × Nat)} (hF : FrmOf rows w FP) {r : List Int} (hl : r.length = w) : ∃ z, Sp (fun v => Sp (InF (prF FP)) v ∨ v = fv r) z ∧ Sp (fun v => Sp (InF (prF FP)) v ∨ v = z) (fv r) ∧ ∀ p, p ∈ prF FP → z p.2 = 0 := by
  have off := hF.frm.red.off
  unfold prF at off
  rw [List.pairwise_map] at off
  obtain ⟨h1, h2, h3, _⟩ := spanL_sp (FP.map fun p => (p.2, p.1)) r (fun p hp => by
    obtain ⟨a, ha, rfl⟩ := List.mem_map.mp hp
    exact ⟨hF.len a ha, hF.frm.red.ne _ (mem_prF ha)⟩) hl (by
    rw [List.pairwise_map]
    exact off.imp fun {a b} h => h.2) (fun v => Sp (InF (prF FP)) v) fun p hp => by
    obtain ⟨a, ha, rfl⟩ := List.mem_map.mp hp
    exact .gen ⟨_, mem_prF ha, rfl⟩
  refine ⟨_, h1, h2, fun p hp => ?_⟩
  obtain ⟨a, ha, rfl⟩ := prF_mem hp
  exact h3 (a.2, a.1) (List.mem_map.mpr ⟨a, ha, rfl⟩)
theorem rank_iff {rows : List (List Int)} {x : List Int} {w : Nat} {FP FP' : List (List Int × Nat)} (hx : x.length = w) (hF : FrmOf rows w FP) (hF' : FrmOf (rows ++ [x]) w FP') : FP'.length = FP.length ↔ Sp (RW rows) (fv x) := by
  have up : ∀ v, InF (prF FP) v → Sp (InF (prF FP')) v := fun v hv => (hF.of v hv).sub fun u ⟨r, hr, e⟩ => by
    rw [e]; exact hF'.to r (List.mem_append.mpr (.inl hr))
  constructor
  · intro h
    have inF : Sp (InF (prF FP)) (fv x) := by
      obtain ⟨z, z1, z2, zv⟩ := form_split hF hx
      by_cases k : ∀ j, z j = 0
      · exact z2.sub fun v hv => by
          rcases hv with hv | rfl
          · exact hv
          · exact Sp.zero.congr fun j => (k j).symm
      · exfalso
        have ⟨q, hq⟩ : ∃ q, z q ≠ 0 := Classical.byContradiction fun y => k fun j => Classical.byContradiction fun t => y ⟨j, t⟩
        have r1 := grow_red hF.frm.red zv hq
        have zs : Sp (InF (prF FP')) z := by
          exact z1.sub fun v hv => by
            rcases hv with hv | rfl
            · exact hv.sub up
            · exact hF'.to x (List.mem_append.mpr (.inr List.mem_cons_self))
        have := rank_le r1 hF'.frm.red fun p hp => (grow_of p hp).sub fun v hv => by
          rcases hv with hv | rfl
          · exact up v hv
          · exact zs
        rw [grow_len] at this
        unfold prF at this
        rw [List.length_map, List.length_map] at this
        omega
    exact inF.sub hF.of
  · intro h
    have : FP' = FP := hF'.uniq hF (fun r hr => by
      rcases List.mem_append.mp hr with z | z
      · exact .gen ⟨r, z, rfl⟩
      · rw [List.mem_singleton.mp z]; exact h) fun r hr => .gen ⟨r, List.mem_append.mpr (.inl hr), rfl⟩
    rw [this]
theorem ech_iff {rows : List (List Int)} {w C : Nat} (hl : ∀ r, r ∈ rows → r.length = w) (hb : HB w C (RW rows)) {x : List Int} (hx : x.length = w) : (∀ j, fv (spanL (echL rows []) x) j = 0) ↔ Sp (RW rows) (fv x) := by
  obtain ⟨n, s, F, I⟩ := einv_all hb (fun v ⟨r, hr, e⟩ j hj => by rw [e]; exact fv_out (by rw [hl r hr]; exact hj)) rows _ [] _ _ _ einv_nil (fun _ h => nomatch h) fun r hr => ⟨hl r hr, r, hr, rfl⟩
  have KR : ∀ v, InF F v → Sp (RW rows) v := fun v ⟨p, hp, e⟩ => by
    rw [e]
    exact (I.bas.ofF p hp).sub fun u ⟨i, hi, e⟩ => by rw [e]; exact .gen (I.bas.inS i hi)
  have RK : ∀ v, RW rows v → Sp (InF F) v := fun v hv => I.to v (.inr hv)
  obtain ⟨h1, h2, h3, _⟩ := spanL_sp (echL rows []) x (fun p hp => ⟨(I.len p hp).1, (I.len p hp).2.1⟩) hx I.pw (fun v => Sp (InF F) v) I.kf
  constructor
  · intro h
    refine h2.sub fun v hv => ?_
    rcases hv with hv | rfl
    · exact hv.sub KR
    · exact Sp.zero.congr fun j => (h j).symm
  · intro h
    refine I.bas.red.zero (h1.sub fun v hv => ?_) fun p hp => ?_
    · rcases hv with hv | rfl
      · exact hv
      · exact h.sub RK
    · have : p.2 ∈ F.map (·.2) := List.mem_map.mpr ⟨p, hp, rfl⟩
      rw [I.pl] at this
      obtain ⟨a, ha, e⟩ := List.mem_map.mp this
      rw [← e]
      exact h3 a ha
theorem nul_two {rows : List (List Int)} {sols : List (List Int)} {w : Nat} {FP : List (List Int × Nat)} (hF : FrmOf rows w FP) (N1 : NullOf rows sols w FP.length) {NP : List (List Int × Nat)} (hN : FrmOf sols w NP) (hl : ∀ r, r ∈ rows → r.length = w) {told sols2 : List (List Int)} (ht : NP.map (·.1) = told) (N2 : NullOf told sols2 w NP.length) {NP2 : List (List Int × Nat)} (hN2 : FrmOf sols2 w NP2) : NP2 = FP := by
  have ns : ∀ v, Nul w (RW told) v ↔ Nul w (RW sols) v := fun v => by
    refine ⟨fun h => ⟨h.1, fun g ⟨x, hx, e⟩ => ?_⟩, fun h => ⟨h.1, fun g ⟨x, hx, e⟩ => ?_⟩⟩
    · rw [e]
      exact dot_sp (G := InF (prF NP)) (fun u ⟨p, hp, eu⟩ => by
        obtain ⟨a, ha, rfl⟩ := prF_mem hp
        rw [eu]
        exact h.2 _ ⟨a.1, by rw [← ht]; exact List.mem_map.mpr ⟨a, ha, rfl⟩, rfl⟩) (hN.to x hx)
    · rw [← ht] at hx
      obtain ⟨a, ha, rfl⟩ := List.mem_map.mp hx
      rw [e]
      exact dot_sp h.2 (hN.of _ ⟨_, mem_prF ha, rfl⟩)
  have rN : ∀ r, r ∈ rows → Nul w (RW told) (fv r) := fun r hr => (ns _).mpr ⟨fun j hj => fv_out (by rw [hl r hr]; exact hj), fun g hg => by
    rw [dot_comm]
    exact ((N1.sp g).mp (.gen hg)).2 _ ⟨r, hr, rfl⟩⟩
  have l1 := N1.rank NP hN
  have l2 := N2.rank NP2 hN2
  -- both of one length, one in the other
  have sub : ∀ p, p ∈ prF FP → Sp (InF (prF NP2)) p.1 := fun p hp => (hF.of p.1 ⟨p, hp, rfl⟩).sub fun u ⟨r, hr, e⟩ => by
    rw [e]
    exact ((N2.sp _).mpr (rN r hr)).sub fun v ⟨x, hx, ev⟩ => by rw [ev]; exact hN2.to x hx
  have back : ∀ p, p ∈ prF NP2 → Sp (InF (prF FP)) p.1 := fun p hp => by
    obtain ⟨a0, ha0, rfl⟩ := prF_mem hp
    obtain ⟨z, z1, z2, zv⟩ := form_split hF (hN2.len a0 ha0)
    by_cases k : ∀ j, z j = 0
    · exact z2.sub fun v hv => by
        rcases hv with hv | rfl
        · exact hv
        · exact Sp.zero.congr fun j => (k j).symm
    · exfalso
      have ⟨q, hq⟩ : ∃ q, z q ≠ 0 := Classical.byContradiction fun y => k fun j => Classical.byContradiction fun t => y ⟨j, t⟩
      have zs : Sp (InF (prF NP2)) z := by
        exact z1.sub fun v hv => by
          rcases hv with hv | rfl
          · exact hv.sub fun u ⟨a, ha, e⟩ => by rw [e]; exact sub a ha
          · exact .gen ⟨_, hp, rfl⟩
      have := rank_le (grow_red hF.frm.red zv hq) hN2.frm.red fun p hp => (grow_of p hp).sub fun v hv => by
        rcases hv with ⟨a, ha, e⟩ | rfl
        · rw [e]; exact sub a ha
        · exact zs
      rw [grow_len] at this
      unfold prF at this
      rw [List.length_map, List.length_map] at this
      omega
  refine hN2.uniq hF (fun x hx => (hN2.to x hx).sub fun v ⟨p, hp, e⟩ => ?_) fun r hr => (hF.to r hr).sub fun v ⟨p, hp, e⟩ => ?_
  · rw [e]; exact (back p hp).sub hF.of
  · rw [e]; exact (sub p hp).sub hN2.of
/-- what is orthogonal to a row and the row itself do not lie in one span -/
theorem sumN_sq : ∀ (n : Nat) (v : Vc), sumN n (fun j => v j * v j) = 0 → ∀ j, j < n → v j = 0
  | 0, v, _, j, h => absurd h (Nat.not_lt_zero _)
  | n + 1, v, h, j, hj => by
    have nn : ∀ m, 0 ≤ sumN m fun j => v j * v j := fun m => by
      induction m with
      | zero => exact Int.le_refl _
      | succ m ih => exact Int.add_nonneg ih (by
          rcases Int.le_total 0 (v m) with z | z
          · exact Int.mul_nonneg z z
          · have := Int.mul_nonneg (show 0 ≤ -(v m) by omega) (show 0 ≤ -(v m) by omega)
            rwa [Int.neg_mul_neg] at this)
    have h0 : sumN n (fun j => v j * v j) + v n * v n = 0 := h
    have h1 := nn n
    have h2 : 0 ≤ v n * v n := by
      rcases Int.le_total 0 (v n) with z | z
      · exact Int.mul_nonneg z z
      · have := Int.mul_nonneg (show 0 ≤ -(v n) by omega) (show 0 ≤ -(v n) by omega)
        rwa [Int.neg_mul_neg] at this
    by_cases e : j = n
    · rw [e]
      have : v n * v n = 0 := by omega
      exact (Int.mul_eq_zero.mp this).elim id id
    · exact sumN_sq n v (by omega) j (by omega)
theorem not_both {w : Nat} {G : Vc → Prop} {v : Vc} (h : Nul w G v) (h2 : Sp G v) : ∀ j, v j = 0 := fun j => by
  by_cases z : j < w
  · exact sumN_sq w v (dot_sp h.2 h2) j z
  · exact h.1 j (by omega)
def cmS (a n : Int) : Int := a * n.fdiv (Int.gcd a n : Nat)
def cmL : Int → List Int → Int
  | a, [] => a
  | a, n :: l => cmL (cmS a n) l
theorem cmS_ok {a n : Int} (ha : 0 < a) (hn : 0 < n) : 0 < cmS a n ∧ a ∣ cmS a n ∧ n ∣ cmS a n ∧ cmS a n ≤ a * n ∧ 0 < n.fdiv (Int.gcd a n : Nat) ∧ n.fdiv (Int.gcd a n : Nat) ≤ n := by
  have g0 : 0 < (Int.gcd a n : Int) := by
    have : Int.gcd a n ≠ 0 := fun z => by have := (Int.gcd_eq_zero_iff.mp z).1; omega
    omega
  obtain ⟨c, hc⟩ := Int.gcd_dvd_right a n
  obtain ⟨b, hb⟩ := Int.gcd_dvd_left a n
  have e : n.fdiv (Int.gcd a n : Nat) = c := by
    conv => lhs; arg 1; rw [hc]
    exact Int.mul_fdiv_cancel_left _ (by omega)
  have c0 : 0 < c := by
    rcases Int.lt_trichotomy c 0 with z | z | z
    · have := Int.mul_neg_of_pos_of_neg g0 z; omega
    · rw [z, Int.mul_zero] at hc; omega
    · exact z
  have cn : c ≤ n := by
    have : 1 * c ≤ (Int.gcd a n : Int) * c := Int.mul_le_mul_of_nonneg_right (by omega) (by omega)
    omega
  unfold cmS
  rw [e]
  refine ⟨Int.mul_pos ha c0, ⟨c, rfl⟩, ⟨b, ?_⟩, Int.mul_le_mul_of_nonneg_left cn (by omega), c0, cn⟩
  calc a * c = (Int.gcd a n : Int) * b * c := by rw [← hb]
    _ = (Int.gcd a n : Int) * c * b := Int.mul_right_comm ..
    _ = n * b := by rw [← hc]
theorem cmL_ok : ∀ (l : List Int) (a : Int) (C : Int), 0 < a → (∀ n, n ∈ l → 0 < n ∧ n ≤ C) → 0 < cmL a l ∧ a ∣ cmL a l ∧ (∀ n, n ∈ l → n ∣ cmL a l) ∧ cmL a l ≤ a * C ^ l.length
  | [], a, C, ha, _ => ⟨ha, ⟨1, (Int.mul_one a).symm⟩, fun _ h => (nomatch h), by
    show a ≤ a * C ^ 0
    rw [Int.pow_zero, Int.mul_one]; exact Int.le_refl _⟩
  | n :: l, a, C, ha, h => by
    obtain ⟨n0, nC⟩ := h n List.mem_cons_self
    obtain ⟨h1, h2, h3, h4, _⟩ := cmS_ok ha n0
    obtain ⟨k1, k2, k3, k4⟩ := cmL_ok l (cmS a n) C h1 fun m hm => h m (List.mem_cons_of_mem _ hm)
    refine ⟨k1, Int.dvd_trans h2 k2, fun m hm => ?_, ?_⟩
    · rcases List.mem_cons.mp hm with rfl | hm
      · exact Int.dvd_trans h3 k2
      · exact k3 m hm
    · have p0 : 0 ≤ C ^ l.length := Int.pow_nonneg (by omega)
      have s1 : cmS a n * C ^ l.length ≤ (a * C) * C ^ l.length := Int.mul_le_mul_of_nonneg_right (Int.le_trans h4 (Int.mul_le_mul_of_nonneg_left nC (by omega))) p0
      rw [List.length_cons, Int.pow_succ, Int.mul_comm (C ^ l.length) C, ← Int.mul_assoc]
      exact Int.le_trans k4 s1
theorem num4 : ∀ w, w < 18 → (2 * w * 10 ^ 30) ^ (w - 1) ≤ 2 ^ 1800 := by decide +kernel
theorem num5 : ∀ w, w < 18 → mB w (10 ^ 30) < 2 ^ 4490 := by decide +kernel
end LV
set_option maxHeartbeats 1000000
namespace LV
open PySem PySem.Spec L2
def zeroR (w : Nat) : List Int := List.replicate w 0
theorem zeroR_fv (w j : Nat) : fv (zeroR w) j = 0 := by
  by_cases z : j < (zeroR w).length
  · exact List.eq_of_mem_replicate (fv_in z)
  · exact fv_out (by omega)
theorem zeroR_len (w : Nat) : (zeroR w).length = w := List.length_replicate
theorem ev_zeroR {env e1 : En} {wn : EW} {w : Nat} (h : Ev env wn (.int (w : Int)) e1) (hw : w ≤ 900) : EvR env (wBlt gTuple (wCons (wOp2 gMulT (wLst (wCons (wC (.int 0)) wNil)) wn) wNil)) (.fz (rowD (zeroR w))) e1 := by
  have m : EvR env (wOp2 gMulT (wLst (wCons (wC (.int 0)) wNil)) wn) (.ow (.lst ((zeroR w).map D.int))) e1 := ev_op (ev_l1 cx).ow h fun Q' q => .inr (by
    have sz := sizeLine_eq
    show gMul (.lst [.int 0]) (.int (w : Int)) Q'
    rw [gMul_li, Int.toNat_natCast]
    refine ⟨by omega, by omega, by show 1 * w ≤ _; omega, ?_⟩
    have e : (List.replicate w [D.int 0]).flatten = (zeroR w).map D.int := by
      rw [fl_one]; unfold zeroR; rw [List.map_replicate]
    rw [e]
    exact q)
  exact ev_tuple m.ow
theorem st_ok {rows : List (List Int)} {w C : Nat} (hl : ∀ r, r ∈ rows → r.length = w) (hb : HB w C (S0 rows)) (hC : C < 2 ^ 4490) : StOk rows w := fun q hq r hr => by
  obtain ⟨h1, h2⟩ := st_bound hl hb q hq r hr
  exact ⟨h1, fun j => Nat.lt_of_le_of_lt (h2 j) hC⟩
theorem ex_max : ∀ l : List Int, l ≠ [] → ∃ m, m ∈ l ∧ ∀ y ∈ l, y ≤ m
  | [], h => absurd rfl h
  | [x], _ => ⟨x, List.mem_cons_self, fun y hy => by rw [List.mem_singleton.mp hy]; exact Int.le_refl _⟩
  | x :: y :: l, _ => by
    obtain ⟨m, hm, hx⟩ := ex_max (y :: l) (List.cons_ne_nil _ _)
    by_cases k : x ≤ m
    · exact ⟨m, List.mem_cons_of_mem _ hm, fun z hz => by
        rcases List.mem_cons.mp hz with rfl | hz
        · exact k
        · exact hx z hz⟩
    · exact ⟨x, List.mem_cons_self, fun z hz => by
        rcases List.mem_cons.mp hz with rfl | hz
        · exact Int.le_refl _
        · have := hx z hz; omega⟩
noncomputable def mxOf (l : List Int) : Int := if h : l ≠ [] then (ex_max l h).choose else 0
theorem mxOf_mem {l : List Int} (h : l ≠ []) : mxOf l ∈ l := by unfold mxOf; rw [dif_pos h]; exact (ex_max l h).choose_spec.1
theorem mxOf_ge {l : List Int} (h : l ≠ []) : ∀ y ∈ l, y ≤ mxOf l := by unfold mxOf; rw [dif_pos h]; exact (ex_max l h).choose_spec.2
theorem red_self {rows0 : List (List Int)} {w B : Nat} {FP : List (List Int × Nat)} (hF : FrmOf rows0 w FP) (hB : 1 ≤ B) (h : ∀ p, p ∈ FP → ∀ j, (fv p.1 j).natAbs ≤ B) : redL (FP.map (·.1)) w = FP.map (·.1) ∧ HB w (mB w B) (S0 (FP.map (·.1))) := by
  have hb := (hb_rows (rows := FP.map (·.1)) (w := w) hB fun r hr => by
    obtain ⟨p, hp, rfl⟩ := List.mem_map.mp hr
    exact h p hp).1
  obtain ⟨FP', h1, h2, _, _⟩ := red_res (w := w) (fun r hr => by
    obtain ⟨p, hp, rfl⟩ := List.mem_map.mp hr
    exact hF.len p hp) hb
  have e : FP' = FP := h2.uniq hF.self (fun r hr => .gen ⟨r, hr, rfl⟩) fun r hr => .gen ⟨r, hr, rfl⟩
  rw [e] at h1
  exact ⟨h1, hb⟩
theorem ev_reduced {env e1 e2 : En} {wa wb : EW} {rows : List (List Int)} {w C : Nat} (ha : Ev env wa (.lst (rows.map rowD)) e1) (hb : Ev e1 wb (.int (w : Int)) e2) (hw : w ≤ 100) (hn : rows.length ≤ 100) (hl : ∀ r, r ∈ rows → r.length = w) (hx : ∀ r, r ∈ rows → ∀ j, (fv r j).natAbs < 2 ^ 8999) (hB : HB w C (S0 rows)) (hC : C < 2 ^ 4490) : EvR env (wCall S_reduced (wCons wa (wCons wb wNil))) (.ow (.lst ((redL rows w).map rowD))) e2 :=
  ev_call (S := S_reduced) (ds := [.lst (rows.map rowD), .int (w : Int)]) (evl_cons ha (evl_cons hb evl_nil)) (fun q => ⟨rows, w, rfl, hw, hn, fun r hr => ⟨hl r hr, hx r hr⟩, st_ok hl hB hC, q⟩) fun i z => by cases z
section
variable {env : En} {w1 w2 w w0 : EW} {wl : AW} {S : FSpec} {o o1 : O} {i j : Nat} {d d1 d2 : D} {Q : Rv → En → Prop} {E : XW} {r : Rv} {ds : List D}
theorem call_fof (mS : MonoF S) (n1 : ∀ xs, o ≠ .nst xs) (h1 : Ev env w1 d1 env) (hj : env[j]? = some (some (.ow o))) (h2 : Ev env w2 d2 env)
    (q : S [.fz d1, .ow o, .fz d2] (fun r as => ∃ a, as = [.fz d1, .ow a, .fz d2] ∧ (∀ i, r ≠ .sl i) ∧ Q r (env.set j (some (.ow a)))) fun _ _ => False) : wCall S (wCons w1 (wCons (wVar j) (wCons w2 wNil))) env Q E := by
  unfold wCall
  refine h1.go (Q := fun r e => wFz (wVar j) e (fun r2 e2 => wFz w2 e2 (fun r3 e3 => _) E) E) (fz_ow hj (h2.go (Q := fun r e => _) ?_))
  refine ⟨[.fz d1, .ow o, .fz d2], ?_, ?_, mS.mo (fun r as ⟨a, e, n, z⟩ => ?_) (fun x as z => z.elim) q⟩
  · show (match some (Val.fz d1), (match valOf env (.sl j), valL env [.fz d2] with | some a, some as => some (a :: as) | _, _ => none) with | some a, some as => some (a :: as) | _, _ => none) = _
    rw [valOf_o hj n1]; rfl
  · show ([j] : List Nat).Nodup
    exact List.nodup_cons.mpr ⟨fun z => (nomatch z), .nil⟩
  · subst e
    exact ⟨rfl, n, z⟩
theorem callT_ff (mS : MonoF S) {PO : O → Prop} (hP : ∀ o, PO o → ∀ xs, o ≠ .nst xs) (h0 : ∀ {Q : Rv → En → Prop} {E : XW}, (∀ o, PO o → Q (.ow o) env) → w0 env Q E) (h1 : Ev env w1 d1 env) (h2 : Ev env w2 d2 env)
    (q : ∀ o1, PO o1 → S [.ow o1, .fz d1, .fz d2] (fun r as => ∃ a, as = [.ow a, .fz d1, .fz d2] ∧ (∀ i, r ≠ .sl i) ∧ Q r env) fun _ _ => False) : wCallT S w0 (wCons w1 (wCons w2 wNil)) env Q E := by
  unfold wCallT
  refine h0 fun o1 p1 => ⟨o1, rfl, hP o1 p1, ?_⟩
  refine h1.go (Q := fun r e => wFz w2 e (fun r3 e3 => _) E) (h2.go (Q := fun r e => _) ?_)
  exact ⟨[.fz d1, .fz d2], rfl, List.nodup_nil, mS.mo (fun r as ⟨a, e, n, z⟩ => ⟨.ow a, [.fz d1, .fz d2], e, rfl, n, z⟩) (fun x as z => z.elim) (q o1 p1)⟩
theorem ev_callO (n1 : ∀ xs, o ≠ .nst xs) (h : env[i]? = some (some (.ow o))) (hl : EvL env wl ds env) (hS : ∀ {Q' : Rv → List Val → Prop} {E' : Xn → List Val → Prop}, Q' r (.ow o :: ds.map .fz) → S (.ow o :: ds.map .fz) Q' E') (hr : ∀ i, r ≠ .sl i) : EvR env (wCall S (wCons (wVar i) wl)) r (env.set i (some (.ow o))) := ⟨fun {Q E} q => by
  unfold wCall
  refine fz_ow h (hl.go (Q := fun rs e => _) ?_)
  refine ⟨.ow o :: ds.map .fz, ?_, ?_, hS ⟨backOk_fz ds, hr, ?_⟩⟩
  · show (match valOf env (.sl i), valL env (ds.map Rv.fz) with | some a, some as => some (a :: as) | _, _ => none) = _
    rw [valL_fz ds, valOf_o h n1]
  · show (i :: slotsOf (ds.map Rv.fz)).Nodup
    rw [slots_fz]
    exact List.nodup_cons.mpr ⟨fun z => (nomatch z), .nil⟩
  · show Q r ((putL env (ds.map Rv.fz) (ds.map Val.fz)).set i (some (.ow o)))
    rw [putL_fz]
    exact q⟩
end
theorem cw_held {α : Type} {g f : α → D} {w : EW} {i : Nat} {envf : Option Val → Option Val → En} {H : Option Val → Prop} (h1 : ∀ a b c, (envf a b).set i c = envf c b) {Q : List D → En → Prop} : ∀ (xs : List α) (acc : List D) (v : Option Val), (∀ x ∈ xs, ∀ v, H v → ∃ v', H v' ∧ Ev (envf (some (.fz (g x))) v) w (f x) (envf (some (.fz (g x))) v')) → H v → acc.length + xs.length < sizeLine → (∀ v, H v → Q (acc ++ xs.map f) (envf none v)) → compW (.n i) uYes w [i] yesK Q (xs.map g) acc (envf none v)
  | [], acc, v, _, hv, _, q => ⟨True.intro, by have := q v hv; rwa [List.map_nil, List.append_nil] at this⟩
  | x :: xs, acc, v, he, hv, hl, q => by
    rw [List.length_cons] at hl
    refine ⟨True.intro, _, rfl, ?_⟩
    rw [h1]
    refine uYes_i' ?_
    rw [if_pos rfl]
    obtain ⟨v', hv', e⟩ := he x List.mem_cons_self v hv
    refine e.go ⟨f x, _, rfl, by omega, ?_⟩
    simp only [wipeE]
    rw [h1]
    refine cw_held h1 xs (acc ++ [f x]) v' (fun y hy => he y (List.mem_cons_of_mem _ hy)) hv' (by rw [List.length_append, List.length_singleton]; omega) fun v hv => ?_
    rw [List.append_assoc]
    exact q v hv
theorem run_all {lc : EW} {K : Ks} {s t : SW} {env : En} {envo : Option Val → En} {H : Option Val → Prop} {bs : List Bool} (h : ∀ {Q : Rv → En → Prop} {E : XW}, (∀ v, H v → Q (.ow (.lst (bs.map D.bl))) (envo v)) → lc env Q E) (hb : bs.all id = true) (q : ∀ v, H v → t K (envo v)) : wIf (wtNot (wTru (wBlt gAll (wCons lc wNil)))) s t K env := by
  unfold wIf wtNot wTru wFz wBlt wCons wFz
  refine h fun v hv => ⟨[.lst (bs.map D.bl)], rfl, bs, rfl, .bl (bs.all id), bs.all id, rfl, rfl, ?_⟩
  rw [hb]
  exact q v hv
theorem good_all {w : Nat} {rows : List (List Int)} (h : GoodR w rows) : ∀ r, r ∈ rows → r.length = w ∧ ∀ j, (fv r j).natAbs ≤ eB w := fun r hr => by
  obtain ⟨i, hi, rfl⟩ := List.getElem_of_mem hr
  obtain ⟨h1, h2⟩ := h i _ (List.getElem?_eq_getElem hi)
  exact ⟨h1, fun j => Nat.le_trans (h2 j) (Nat.mul_le_mul_left _ (Nat.pow_le_pow_right (by decide) (by omega)))⟩
theorem eB_pos (w : Nat) : 1 ≤ eB w := by unfold eB; split <;> decide
theorem ech_ok {w : Nat} {rows : List (List Int)} (hg : GoodR w rows) (w17 : w ≤ 17) : EchOk rows w := fun A r B e => by
  have all := good_all hg
  have sub : ∀ a, a ∈ A → a ∈ rows := fun a ha => by rw [e]; exact List.mem_append.mpr (.inl ha)
  have rm : r ∈ rows := by rw [e]; exact List.mem_append.mpr (.inr List.mem_cons_self)
  have hb := ((hb_rows (rows := rows) (w := w) (eB_pos w) fun r hr => (all r hr).2).2).up (num1 w (by omega))
  obtain ⟨h1, h2⟩ := ech_bound hb (fun v ⟨r, hr, e⟩ j hj => by rw [e]; exact fv_out (by rw [(all r hr).1]; exact hj)) A _ [] _ _ _ einv_nil (fun _ h => nomatch h) fun a ha => ⟨(all a (sub a ha)).1, a, sub a ha, rfl⟩
  refine ⟨(all r rm).1, fun p hp => ⟨(h1 p hp).1, (h1 p hp).2.1, fun j => ?_⟩, by omega, span_small (fun p hp => ⟨(h1 p hp).1, (h1 p hp).2.2⟩) (all r rm).1 (by omega) fun j => ?_⟩
  · exact Nat.lt_of_le_of_lt ((h1 p hp).2.2 j) (Nat.pow_lt_pow_right (by decide) (by decide))
  · exact Nat.lt_of_le_of_lt ((all r rm).2 j) (eB_lt w)
end LV
namespace LV
open PySem PySem.Spec L2
section
variable {env e1 e2 : En} {w wi : EW} {d : D} {i j k : Nat} {ds as bs : List D} {K : Ks} {Q : List D → KeepE → En → Prop} {E : XW}
theorem run_setIx (h : Ev env w d e1) (hk : Ev e1 wi (.int (k : Int)) e2) (h1 : e1[i]? = some (some (.ow (.lst ds)))) (h2 : e2[i]? = some (some (.ow (.lst ds)))) (hl : k < ds.length) (q : K.nx (e2.set i (some (.ow (.lst (ds.set k d)))))) : wSetIx i w wi K env := by
  unfold wSetIx
  refine h.go ⟨⟨_, h1⟩, hk.go ⟨k, k, ds, d, _, rfl, (fun z => nomatch z), rfl, h2, ?_, q⟩⟩
  unfold ixN
  rw [if_pos (by omega), if_pos (by omega), Int.toNat_natCast]
theorem zip_so (h1 : env[i]? = some (some (.fz (.lst as)))) (h2 : env[j]? = some (some (.ow (.lst bs)))) (q : Q (zipD as bs) yesK (env.set j (some (.fz (.lst bs))))) : wZip (wCons (wVar i) (wCons (wVar j) wNil)) env Q E := by
  unfold wZip wCons wFz
  simp only [wVar, h1, h2]
  refine ⟨[.lst as, .lst bs], env.set j (some (.fz (.lst bs))), ?_, .inr ⟨as, bs, rfl, q⟩⟩
  show frzL env [.fz (.lst as), .sl j] = _
  simp only [frzL, Rv.frz, frz1, h2, look]
  rfl
theorem zip_ss (h1 : env[i]? = some (some (.fz (.lst as)))) (h2 : env[j]? = some (some (.fz (.lst bs)))) (q : Q (zipD as bs) yesK env) : wZip (wCons (wVar i) (wCons (wVar j) wNil)) env Q E := by
  unfold wZip
  exact (evl_cons (vx i h1) (evl_cons (vx j h2) evl_nil)).go ⟨[.lst as, .lst bs], _, frzL_fz' [.lst as, .lst bs], .inr ⟨as, bs, rfl, q⟩⟩
theorem zip_two {α : Type} (f g : α → D) : ∀ l : List α, zipD (l.map f) (l.map g) = l.map fun p => D.tup [f p, g p]
  | [] => rfl
  | x :: l => by
    show D.tup [f x, g x] :: zipD (l.map f) (l.map g) = _
    rw [zip_two f g l]; rfl
theorem ev_zeroL {wn : EW} {w : Nat} (h : Ev env wn (.int (w : Int)) e1) (hw : w ≤ 900) : EvR env (wOp2 gMulT (wLst (wCons (wC (.int 0)) wNil)) wn) (.ow (.lst ((zeroR w).map D.int))) e1 := ev_op (ev_l1 cx).ow h fun Q' q => .inr (by
    have sz := sizeLine_eq
    show gMul (.lst [.int 0]) (.int (w : Int)) Q'
    rw [gMul_li, Int.toNat_natCast]
    refine ⟨by omega, by omega, by show 1 * w ≤ _; omega, ?_⟩
    have e : (List.replicate w [D.int 0]).flatten = (zeroR w).map D.int := by
      rw [fl_one]; unfold zeroR; rw [List.map_replicate]
    rw [e]
    exact q)
end
def S_common_multiple : FSpec := fun args Q _ => ∃ ns : List Int, args = [.fz (.lst (ns.map D.int))] ∧ ns.length ≤ 17 ∧ (∀ n, n ∈ ns → 0 < n ∧ n ≤ 2 ^ 376) ∧ Q (.fz (.int (cmL 1 ns))) args
theorem mS_common_multiple : MonoF S_common_multiple := ⟨fun h _ ⟨a, b, c, d, q⟩ => ⟨a, b, c, d, h _ _ q⟩⟩
theorem pwc (n : Nat) : ((2 ^ n : Nat) : Int) = 2 ^ n := by rw [Int.natCast_pow]; rfl
theorem ipw_le {m n : Nat} (h : m ≤ n) : (2 : Int) ^ m ≤ 2 ^ n := by
  rw [← pwc, ← pwc]
  exact Int.ofNat_le.mpr (Nat.pow_le_pow_right (by decide) h)
theorem pw17 {m : Nat} (h : m ≤ 17) : ((2 : Int) ^ 376) ^ m ≤ 2 ^ 6392 := by
  rw [← Int.pow_mul]
  exact ipw_le (by omega)
theorem sm_pw {x : Int} (x0 : 0 < x) (x1 : x ≤ 2 ^ 6392) : x.natAbs < 2 ^ 8999 := by
  refine Int.ofNat_lt.mp ?_
  rw [pwc, Int.natAbs_of_nonneg (Int.le_of_lt x0)]
  refine Int.lt_of_le_of_lt x1 ?_
  rw [← pwc, ← pwc]
  exact Int.ofNat_lt.mpr (Nat.pow_lt_pow_right (by decide) (by decide))
theorem lp_cm {A : D} {K : Ks} : ∀ (l : List Int) (a : Int) (m : Nat) (v2 : Option Val), 0 < a → a ≤ (2 ^ 376) ^ m → m + l.length ≤ 17 → (∀ n, n ∈ l → 0 < n ∧ n ≤ 2 ^ 376) → (∀ v2, K.nx [some (.fz A), some (.fz (.int (cmL a l))), v2]) →
    loopW (.n 2) (wSet 1 (wOp2 gMulT (wVar 1) (wOp2 gDiv (wVar 2) (wCall S_common_divisor (wCons (wFrz (wVar 1)) (wCons (wFrz (wVar 2)) wNil)))))) yesK K (l.map D.int) [some (.fz A), some (.fz (.int a)), v2]
  | [], a, m, v2, _, _, _, _, hn => ⟨True.intro, hn _⟩
  | n :: l, a, m, v2, ha, hm, hl, hp, hn => by
    rw [List.length_cons] at hl
    refine ⟨True.intro, _, rfl, ?_⟩
    show wSet _ _ _ [some (.fz A), some (.fz (.int a)), some (.fz (.int n))]
    obtain ⟨n0, n1⟩ := hp n List.mem_cons_self
    obtain ⟨c0, _, _, c3, f0, f1⟩ := cmS_ok ha n0
    have p1 := pw17 (m := m) (by omega)
    have e1 : (2 : Int) ^ 376 ≤ 2 ^ 6392 := ipw_le (by decide)
    have sm : ∀ x : Int, 0 < x → x ≤ 2 ^ 6392 → x.natAbs < 2 ^ 8999 := fun x x0 x1 => sm_pw x0 x1
    have g0 : (Int.gcd a n : Int) ≠ 0 := fun z => by
      have := Int.gcd_eq_zero_iff.mp (show Int.gcd a n = 0 by omega)
      omega
    have gle : (Int.gcd a n : Int) ≤ n := Int.le_of_dvd n0 (Int.gcd_dvd_right a n)
    have gcd := ev_gcd (env := [some (.fz A), some (.fz (.int a)), some (.fz (.int n))]) (wa := wFrz (wVar 1)) (wb := wFrz (wVar 2)) (fx 1 rfl) (fx 2 rfl)
    have dv := ev_divX (vx (env := [some (.fz A), some (.fz (.int a)), some (.fz (.int n))]) (d := .int n) 2 rfl) gcd.fz (cd_ok g0 (sm _ (by omega) (by omega)))
    have ml := ev_mulX (vx (env := [some (.fz A), some (.fz (.int a)), some (.fz (.int n))]) (d := .int a) 1 rfl) dv.fz (cm_ok (sm _ ha (by omega)) (sm _ f0 (by omega)))
    refine run_set ml ?_
    refine lp_cm l (cmS a n) (m + 1) _ c0 ?_ (by omega) (fun x hx => hp x (List.mem_cons_of_mem _ hx)) hn
    have p0 : (0 : Int) ≤ (2 ^ 376) ^ m := Int.pow_nonneg (by decide)
    rw [Int.pow_succ]
    calc cmS a n ≤ a * n := c3
      _ ≤ a * 2 ^ 376 := Int.mul_le_mul_of_nonneg_left n1 (by omega)
      _ ≤ (2 ^ 376) ^ m * 2 ^ 376 := Int.mul_le_mul_of_nonneg_right hm (by decide)
theorem kp_common_multiple : Keeps S_common_multiple [] 1 3 (w_common_multiple S_common_divisor) where
  fit := fun args Q E ⟨_, a, _⟩ => a ▸ fit1
  run := fun args Q E ⟨ns, a, hl, hp, q⟩ => by
    subst a
    unfold w_common_multiple
    obtain ⟨A, hA⟩ : ∃ A, D.lst (ns.map D.int) = A := ⟨_, rfl⟩
    rw [hA] at q ⊢
    change wSeq _ _ _ [some (.fz A), none, none]
    refine seq_k fun K1 hn1 _ _ _ _ => run_set (d := .int 1) ev_c (hn1 _ ?_)
    change wSeq _ _ _ [some (.fz A), some (.fz (.int 1)), none]
    refine seq_k fun K2 hn2 _ _ _ _ => run_forD (d := A) (xs := ns.map D.int) (ev_var rfl) (by rw [← hA]; rfl) (lp_cm ns 1 0 none (by decide) (by rw [Int.pow_zero]; decide) (by omega) hp fun v2 => hn2 _ ?_)
    exact run_ret (ev_var rfl) ⟨_, rfl, q⟩
end LV
namespace LV
open PySem PySem.Spec L2
def ldN (FP : List (List Int × Nat)) : List Int := FP.map fun p => (p.2 : Int)
theorem in_leads (q : Nat) : ∀ FP : List (List Int × Nat), ((pdL ((ldN FP).map D.int)).any fun z => PyData.eqv z (D.int (q : Int)).pd) = isPiv FP q
  | [] => rfl
  | p :: FP => by
    show (PyData.eqv (D.int (p.2 : Int)).pd (D.int (q : Int)).pd || ((pdL ((ldN FP).map D.int)).any fun z => PyData.eqv z (D.int (q : Int)).pd)) = (p.2 == q || isPiv FP q)
    rw [in_leads q FP]
    have : PyData.eqv (D.int (p.2 : Int)).pd (D.int (q : Int)).pd = (p.2 == q) := by
      show ((p.2 : Int) == (q : Int)) = _
      rw [Bool.eq_iff_iff, beq_iff_eq, beq_iff_eq]
      exact Int.ofNat_inj
    rw [this]
theorem okE_intL (r : List Int) : (D.lst (r.map D.int)).okE = true := by
  show (plainL (r.map D.int) && (PyData.canLayAll0 (pdL (r.map D.int)) && decide (PyData.depthAll (pdL (r.map D.int)) + 1 ≤ 64))) = true
  rw [plainL_ints, lay_ints, deep_ints]; rfl
theorem fd_abs {L k : Int} (hL : 0 < L) (hk : 0 < k) : (L.fdiv k).natAbs ≤ L.natAbs := by
  rw [Int.fdiv_eq_ediv_of_nonneg _ (by omega)]
  have h1 := Int.ediv_le_self k (show 0 ≤ L by omega)
  have h2 := Int.ediv_nonneg (show 0 ≤ L by omega) (show 0 ≤ k by omega)
  omega
theorem abs_pw {x : Int} {n : Nat} (x0 : 0 < x) (x1 : x ≤ 2 ^ n) : x.natAbs ≤ 2 ^ n := by
  refine Int.ofNat_le.mp ?_
  rw [pwc, Int.natAbs_of_nonneg (Int.le_of_lt x0)]
  exact x1
theorem solV_abs {q : Nat} {L : Int} {p : List Int × Nat} (hL : 0 < L) (hL2 : L ≤ 2 ^ 6392) (hp : 0 < fv p.1 p.2) (hb : ∀ j, (fv p.1 j).natAbs ≤ 2 ^ 376) : (solV q L p).natAbs ≤ 2 ^ 6768 := by
  unfold solV
  rw [Int.natAbs_mul, Int.natAbs_neg]
  have h1 := Nat.le_trans (fd_abs hL hp) (abs_pw hL hL2)
  have := Nat.mul_le_mul (hb q) h1
  rw [← Nat.pow_add] at this
  exact this
theorem solP_abs {q : Nat} {L : Int} {B : Nat} : ∀ (l : List (List Int × Nat)) (s : List Int), (∀ p, p ∈ l → (solV q L p).natAbs ≤ B) → (∀ j, (fv s j).natAbs ≤ B) → ∀ j, (fv (solP q L l s) j).natAbs ≤ B
  | [], s, _, h => h
  | p :: l, s, hp, h => solP_abs l _ (fun a ha => hp a (List.mem_cons_of_mem _ ha)) fun j => by
    rw [fv_set]
    split
    · exact hp p List.mem_cons_self
    · exact h j
theorem solR_abs {FP : List (List Int × Nat)} {w q : Nat} {L : Int} (hL : 0 < L) (hL2 : L ≤ 2 ^ 6392) (hp : ∀ p, p ∈ FP → 0 < fv p.1 p.2 ∧ ∀ j, (fv p.1 j).natAbs ≤ 2 ^ 376) (j : Nat) : (fv (solR FP w L q) j).natAbs < 2 ^ 8999 := by
  refine Nat.lt_of_le_of_lt (solP_abs (B := 2 ^ 6768) FP (sol0 w q L) (fun p h => solV_abs hL hL2 (hp p h).1 (hp p h).2) (fun j => ?_) j) (Nat.pow_lt_pow_right (by decide) (by decide))
  unfold sol0
  rw [fv_set, fv_rep0]
  split
  · exact Nat.le_trans (abs_pw hL hL2) (Nat.pow_le_pow_right (by decide) (by decide))
  · exact Nat.zero_le _
def innB : SW := (wSetIx 9 (wOp2 gMulT (wNeg (wOp2 gIx (wVar 4) (wVar 8))) (wOp2 gDiv (wVar 5) (wOp2 gIx (wVar 4) (wVar 6)))) (wVar 6))
def nsB : SW := (wIf (wB (wOp2 gNotIn (wVar 8) (wVar 3)))
  (wSeq (wSet 9 (wOp2 gMulT (wLst (wCons (wC (.int 0)) wNil)) (wVar 1)))
  (wSeq (wSetIx 9 (wVar 5) (wVar 8))
  (wSeq (wFor (.t [4, 6]) (wZip (wCons (wVar 2) (wCons (wVar 3) wNil))) innB)
  (wApp 7 (wBlt gTuple (wCons (wVar 9) wNil))))))
  wSkip)
abbrev E10n (A : D) (w : Nat) (T LD : List D) (v4 : Option Val) (L : Int) (v6 : Option Val) (S : List D) (v8 v9 : Option Val) : En := [some (.fz A), some (.fz (.int (w : Int))), some (.fz (.lst T)), some (.fz (.lst LD)), v4, some (.fz (.int L)), v6, some (.ow (.lst S)), v8, v9]
section
variable {A : D} {w q : Nat} {T LD S : List D} {L : Int} {K : Ks}
theorem lp_put (hw : w ≤ 100) (hq : q < w) (hL : 0 < L) (hL2 : L ≤ 2 ^ 6392) : ∀ (l : List (List Int × Nat)) (s : List Int) (v4 v6 : Option Val), s.length = w → (∀ p, p ∈ l → p.1.length = w ∧ p.2 < w ∧ 0 < fv p.1 p.2 ∧ ∀ j, (fv p.1 j).natAbs ≤ 2 ^ 376) →
    (∀ v4 v6, K.nx (E10n A w T LD v4 L v6 S (some (.fz (.int (q : Int)))) (some (.ow (.lst ((solP q L l s).map D.int)))))) →
    loopW (.t [4, 6]) innB yesK K (l.map fun p => D.tup [rowD p.1, .int (p.2 : Int)]) (E10n A w T LD v4 L v6 S (some (.fz (.int (q : Int)))) (some (.ow (.lst (s.map D.int)))))
  | [], s, v4, v6, _, _, hn => ⟨True.intro, hn _ _⟩
  | p :: l, s, v4, v6, hs, hp, hn => by
    obtain ⟨p1, p2, p3, p4⟩ := hp p List.mem_cons_self
    refine ⟨True.intro, _, rfl, ?_⟩
    have up : ∀ {x : Int}, x.natAbs ≤ 2 ^ 376 → x.natAbs < 2 ^ 8999 := fun h => Nat.lt_of_le_of_lt h (Nat.pow_lt_pow_right (by decide) (by decide))
    change innB _ (E10n A w T LD (some (.fz (rowD p.1))) L (some (.fz (.int (p.2 : Int)))) S (some (.fz (.int (q : Int)))) (some (.ow (.lst (s.map D.int)))))
    unfold innB
    have a1 := ev_negX (ev_ixS (env := E10n A w T LD (some (.fz (rowD p.1))) L (some (.fz (.int (p.2 : Int)))) S (some (.fz (.int (q : Int)))) (some (.ow (.lst (s.map D.int))))) (wa := wVar 4) (wb := wVar 8) (sqT p.1) (vx 4 rfl) (vx 8 rfl) (by omega : q < p.1.length))
    have a2 := ev_ixS (env := E10n A w T LD (some (.fz (rowD p.1))) L (some (.fz (.int (p.2 : Int)))) S (some (.fz (.int (q : Int)))) (some (.ow (.lst (s.map D.int))))) (wa := wVar 4) (wb := wVar 6) (sqT p.1) (vx 4 rfl) (vx 6 rfl) (by omega : p.2 < p.1.length)
    have a3 := ev_divX (vx (env := E10n A w T LD (some (.fz (rowD p.1))) L (some (.fz (.int (p.2 : Int)))) S (some (.fz (.int (q : Int)))) (some (.ow (.lst (s.map D.int))))) (d := .int L) 5 rfl) a2.fz (cd_ok (by omega) (up (p4 _)))
    have a4 := ev_mulX a1.fz a3.fz (cm_ok (by rw [Int.natAbs_neg]; exact up (p4 _)) (Nat.lt_of_le_of_lt (Nat.le_trans (fd_abs hL p3) (abs_pw hL hL2)) (Nat.pow_lt_pow_right (by decide) (by decide))))
    refine run_setIx (k := p.2) (ds := s.map D.int) a4.fz (vx 6 rfl) rfl rfl (by rw [List.length_map]; omega) ?_
    have e : (s.map D.int).set p.2 (.int (-(fv p.1 q) * L.fdiv (fv p.1 p.2))) = (s.set p.2 (solV q L p)).map D.int := by rw [List.map_set]; rfl
    rw [e]
    exact lp_put hw hq hL hL2 l (s.set p.2 (solV q L p)) _ _ (by rw [List.length_set]; exact hs) (fun a ha => hp a (List.mem_cons_of_mem _ ha)) hn
theorem lp_ns {FP : List (List Int × Nat)} (hw : w ≤ 17) (hL : 0 < L) (hL2 : L ≤ 2 ^ 6392) (hT : T = FP.map fun p => rowD p.1) (hLD : LD = (ldN FP).map D.int) (hp : ∀ p, p ∈ FP → p.1.length = w ∧ p.2 < w ∧ 0 < fv p.1 p.2 ∧ ∀ j, (fv p.1 j).natAbs ≤ 2 ^ 376)
    (hn : ∀ v4 v6 v8 v9, K.nx (E10n A w T LD v4 L v6 ((solsL FP w L).map rowD) v8 v9)) : ∀ (j k : Nat) (v4 v6 v8 v9 : Option Val), k + j = w → 
    loopW (.n 8) nsB yesK K (rngD (k : Int) j) (E10n A w T LD v4 L v6 ((((List.range k).filter fun q => !isPiv FP q).map (solR FP w L)).map rowD) v8 v9)
  | 0, k, v4, v6, v8, v9, hk => ⟨True.intro, by
    have : k = w := by omega
    subst this
    exact hn _ _ _ _⟩
  | j + 1, k, v4, v6, v8, v9, hk => by
    obtain ⟨S, hS⟩ : ∃ S, (((List.range k).filter fun q => !isPiv FP q).map (solR FP w L)).map rowD = S := ⟨_, rfl⟩
    have go := fun v4 v6 v8 v9 => lp_ns hw hL hL2 hT hLD hp hn j (k + 1) v4 v6 v8 v9 (by omega)
    rw [List.range_succ, List.filter_append, List.map_append, List.map_append, hS] at go
    have sl : S.length ≤ k := by
      rw [← hS, List.length_map, List.length_map]
      have := List.length_filter_le (fun q => !isPiv FP q) (List.range k)
      rwa [List.length_range] at this
    rw [hS]
    refine ⟨True.intro, _, rfl, ?_⟩
    change nsB _ (E10n A w T LD v4 L v6 S (some (.fz (.int (k : Int)))) v9)
    have nin : EvR (E10n A w T LD v4 L v6 S (some (.fz (.int (k : Int)))) v9) (wOp2 gNotIn (wVar 8) (wVar 3)) (.fz (.bl (!isPiv FP k))) (E10n A w T LD v4 L v6 S (some (.fz (.int (k : Int)))) v9) := ev_op (vx (d := .int (k : Int)) 8 rfl) (vx (d := .lst LD) 3 rfl) fun Q' q => ⟨rfl, by rw [hLD]; exact okE_intL _, isPiv FP k, by
      rw [hLD]
      show some ((pdL ((ldN FP).map D.int)).any fun z => PyData.eqv z (D.int (k : Int)).pd) = _
      rw [in_leads], q⟩
    unfold nsB
    cases hv : isPiv FP k with
    | true =>
      rw [hv] at nin
      refine run_if_f (evt_B (k := false) nin) ?_
      have go := go v4 v6 (some (.fz (.int (k : Int)))) v9
      rw [List.filter_cons, hv, if_neg (by decide), List.filter_nil, List.map_nil, List.map_nil, List.append_nil] at go
      exact go
    | false =>
      rw [hv] at nin
      refine run_if_t (evt_B (k := true) nin) ?_
      refine seq_k fun K1 hn1 _ _ _ _ => run_setO (ev_zeroL (vx 1 rfl) (by omega)) (hn1 _ ?_)
      change wSeq _ _ _ (E10n A w T LD v4 L v6 S (some (.fz (.int (k : Int)))) (some (.ow (.lst ((zeroR w).map D.int)))))
      refine seq_k fun K2 hn2 _ _ _ _ => run_setIx (k := k) (d := .int L) (ds := (zeroR w).map D.int) (vx 5 rfl) (vx 8 rfl) rfl rfl (by rw [List.length_map, zeroR_len]; omega) (hn2 _ ?_)
      have e : ((zeroR w).map D.int).set k (.int L) = (sol0 w k L).map D.int := by unfold sol0; rw [List.map_set]; rfl
      rw [e]
      change wSeq _ _ _ (E10n A w T LD v4 L v6 S (some (.fz (.int (k : Int)))) (some (.ow (.lst ((sol0 w k L).map D.int)))))
      refine seq_k fun K3 hn3 _ _ _ _ => ?_
      unfold wFor
      refine zip_ss (as := T) (bs := LD) rfl rfl ?_
      have ez : zipD T LD = FP.map fun p => D.tup [rowD p.1, .int (p.2 : Int)] := by
        rw [hT, hLD, ldN, List.map_map]
        exact zip_two (fun p => rowD p.1) (fun p => D.int (p.2 : Int)) FP
      rw [ez]
      refine lp_put (by omega) (by omega) hL hL2 FP (sol0 w k L) _ _ (sol0_len ..) hp fun v4 v6 => hn3 _ ?_
      have tp : ∀ r : List Int, EvR (E10n A w T LD v4 L v6 S (some (.fz (.int (k : Int)))) (some (.ow (.lst (r.map D.int))))) (wBlt gTuple (wCons (wVar 9) wNil)) (.fz (rowD r)) (E10n A w T LD v4 L v6 S (some (.fz (.int (k : Int)))) (some (.ow (.lst (r.map D.int))))) := fun r => ev_bltS (i := 9) (o := .lst (r.map D.int)) rfl fun Q' q => q
      refine app_d (ds := S) (tp _).fz rfl (by omega) ?_
      have go := go v4 v6 (some (.fz (.int (k : Int)))) (some (.ow (.lst ((solP k L FP (sol0 w k L)).map D.int))))
      rw [List.filter_cons, hv, if_pos (by decide), List.filter_nil, List.map_cons, List.map_nil, List.map_cons, List.map_nil] at go
      exact go
end
end LV
namespace LV
open PySem PySem.Spec L2
def S_null_space : FSpec := fun args Q _ => ∃ (rows : List (List Int)) (w : Nat), args = [.fz (.lst (rows.map rowD)), .fz (.int (w : Int))] ∧ w ≤ 17 ∧ rows.length ≤ 100 ∧ (∀ r, r ∈ rows → r.length = w ∧ ∀ j, (fv r j).natAbs ≤ 10 ^ 30) ∧ (∀ r, r ∈ redL rows w → ∀ j, (fv r j).natAbs ≤ 2 ^ 376) ∧
  ∀ FP sols NP, FrmOf rows w FP → NullOf rows sols w FP.length → FrmOf sols w NP → NP.length ≤ 17 → (∀ p, p ∈ NP → ∀ j, (fv p.1 j).natAbs ≤ 2 ^ 1800) → Q (.ow (.lst (NP.map fun p => rowD p.1))) args
theorem mS_null_space : MonoF S_null_space := ⟨fun h _ ⟨a, b, c, d, e, f, g, q⟩ => ⟨a, b, c, d, e, f, g, fun x y z h1 h2 h3 h4 h5 => h _ _ (q x y z h1 h2 h3 h4 h5)⟩⟩
theorem num6 : (10 : Nat) ^ 30 < 2 ^ 8999 := Nat.lt_of_lt_of_le (show (10 : Nat) ^ 30 < 2 ^ 100 by decide) (Nat.pow_le_pow_right (by decide) (by decide))
theorem prF_len (FP : List (List Int × Nat)) : (prF FP).length = FP.length := List.length_map ..
theorem map_fst (FP : List (List Int × Nat)) : (FP.map (·.1)).map rowD = FP.map fun p => rowD p.1 := by rw [List.map_map]; rfl
theorem kp_null_space : Keeps S_null_space [] 2 10 (w_null_space S_reduced S_lead_position S_common_multiple) where
  fit := fun args Q E ⟨_, _, a, _⟩ => a ▸ fit2
  run := fun args Q E ⟨rows, w, a, hw, hn, hr, hf, q⟩ => by
    subst a
    unfold w_null_space
    have sz := sizeLine_eq
    have rl : ∀ r, r ∈ rows → r.length = w := fun r h => (hr r h).1
    have rb : ∀ r, r ∈ rows → ∀ j, (fv r j).natAbs ≤ 10 ^ 30 := fun r h => (hr r h).2
    have hb := (hb_rows (rows := rows) (w := w) (B := 10 ^ 30) (by decide) rb).1
    obtain ⟨FP, rd, hF, ⟨n0, s0, bas, nw⟩, _⟩ := red_res rl hb
    have fpl : FP.length ≤ 17 := by
      have := bas.len
      rw [prF_len] at this
      omega
    have fb : ∀ p, p ∈ FP → ∀ j, (fv p.1 j).natAbs ≤ 2 ^ 376 := fun p hp => hf p.1 (by rw [rd]; exact List.mem_map.mpr ⟨p, hp, rfl⟩)
    have fpos : ∀ p, p ∈ FP → 0 < fv p.1 p.2 := fun p hp => hF.frm.pos _ (mem_prF hp)
    obtain ⟨A, hA⟩ : ∃ A, D.lst (rows.map rowD) = A := ⟨_, rfl⟩
    have er := ev_reduced (env := [some (.fz A), some (.fz (.int (w : Int))), none, none, none, none, none, none, none, none]) (wa := wFrz (wVar 0)) (wb := wFrz (wVar 1)) (rows := rows) (w := w) (by rw [hA]; exact fx 0 rfl) (fx 1 rfl) (by omega) hn rl (fun r h j => Nat.lt_of_le_of_lt (rb r h j) num6) hb (num5 w (by omega))
    rw [rd, map_fst] at er
    rw [hA] at q ⊢
    change wSeq _ _ _ [some (.fz A), some (.fz (.int (w : Int))), none, none, none, none, none, none, none, none]
    refine seq_k fun K1 hn1 _ _ _ _ => run_setO er (hn1 _ ?_)
    obtain ⟨T, hT⟩ : ∃ T, (FP.map fun p => rowD p.1) = T := ⟨_, rfl⟩
    have tl : T.length ≤ 17 := by rw [← hT, List.length_map]; exact fpl
    rw [hT]
    change wSeq _ _ _ [some (.fz A), some (.fz (.int (w : Int))), some (.ow (.lst T)), none, none, none, none, none, none, none]
    -- leads
    have lds : EvR [some (.fz A), some (.fz (.int (w : Int))), some (.ow (.lst T)), none, none, none, none, none, none, none] (wLc (.n 4) (wIt [] (wVar 2)) uYes (wCall S_lead_position (wCons (wFrz (wVar 4)) wNil)) [4]) (.ow (.lst ((ldN FP).map D.int))) [some (.fz A), some (.fz (.int (w : Int))), some (.fz (.lst T)), none, none, none, none, none, none, none] := by
      have e : (ldN FP).map D.int = FP.map fun p => D.int (p.2 : Int) := by unfold ldN; rw [List.map_map]; rfl
      rw [e]
      subst hT
      exact lc_mapS (k := 2) (i := 4) (g := fun p : List Int × Nat => rowD p.1) (f := fun p : List Int × Nat => D.int (p.2 : Int)) (xs := FP) rfl (fun p hp => by
        have el : leadL p.1 = p.2 := leadL_eq (hF.frm.red.ne _ (mem_prF hp)) (hF.frm.low _ (mem_prF hp))
        have := ev_call (env := [some (.fz A), some (.fz (.int (w : Int))), some (.fz (.lst (FP.map fun p => rowD p.1))), none, some (.fz (rowD p.1)), none, none, none, none, none]) (S := S_lead_position) (ds := [rowD p.1]) (wl := wCons (wFrz (wVar 4)) wNil) (r := .fz (.int (leadL p.1 : Nat))) (evl_cons (fx 4 rfl) evl_nil) (fun q => ⟨rowD p.1, p.1, rfl, sqT _, q⟩) fun i z => by cases z
        rw [el] at this
        exact this.fz) (by omega)
    refine seq_k fun K2 hn2 _ _ _ _ => run_setO lds (hn2 _ ?_)
    obtain ⟨LD, hLD⟩ : ∃ LD, (ldN FP).map D.int = LD := ⟨_, rfl⟩
    rw [hLD]
    change wSeq _ _ _ [some (.fz A), some (.fz (.int (w : Int))), some (.fz (.lst T)), some (.ow (.lst LD)), none, none, none, none, none, none]
    have ez : zipD T LD = FP.map fun p => D.tup [rowD p.1, .int (p.2 : Int)] := by
      rw [← hT, ← hLD, ldN, List.map_map]
      exact zip_two (fun p => rowD p.1) (fun p => D.int (p.2 : Int)) FP
    -- the scale
    obtain ⟨ns, hns⟩ : ∃ ns, (FP.map fun p => fv p.1 p.2) = ns := ⟨_, rfl⟩
    have nsl : ns.length = FP.length := by rw [← hns, List.length_map]
    have nsp : ∀ n, n ∈ ns → 0 < n ∧ n ≤ 2 ^ 376 := fun n h => by
      rw [← hns] at h
      obtain ⟨p, hp, rfl⟩ := List.mem_map.mp h
      have h1 := fpos p hp
      have h2 := fb p hp p.2
      refine ⟨h1, ?_⟩
      have h3 : ((fv p.1 p.2).natAbs : Int) ≤ ((2 ^ 376 : Nat) : Int) := Int.ofNat_le.mpr h2
      rw [pwc, Int.natAbs_of_nonneg (Int.le_of_lt h1)] at h3
      exact h3
    have scs : EvR [some (.fz A), some (.fz (.int (w : Int))), some (.fz (.lst T)), some (.ow (.lst LD)), none, none, none, none, none, none] (wLc (.t [4, 6]) (wZip (wCons (wVar 2) (wCons (wVar 3) wNil))) uYes (wOp2 gIx (wVar 4) (wVar 6)) [4, 6]) (.ow (.lst (ns.map D.int))) [some (.fz A), some (.fz (.int (w : Int))), some (.fz (.lst T)), some (.fz (.lst LD)), none, none, none, none, none, none] := ⟨fun {Q' E'} q' => by
      unfold wLc
      refine zip_so (as := T) (bs := LD) rfl rfl ?_
      rw [ez]
      refine cw_mapL (g := fun p : List Int × Nat => D.tup [rowD p.1, .int (p.2 : Int)]) (f := fun p : List Int × Nat => D.int (fv p.1 p.2)) True.intro FP [] (fun p hp => ⟨_, rfl, rfl, ?_⟩) (by rw [List.length_nil]; omega) ?_
      · exact (ev_ixS (sqT p.1) (vx 4 rfl) (vx 6 rfl) (by rw [hF.len p hp]; exact hF.lt p hp)).fz
      · rw [List.nil_append, show (FP.map fun p : List Int × Nat => D.int (fv p.1 p.2)) = ns.map D.int by rw [← hns, List.map_map]; rfl]
        exact q'⟩
    obtain ⟨L, hL⟩ : ∃ L, cmL 1 ns = L := ⟨_, rfl⟩
    have sc := ev_call (S := S_common_multiple) (ds := [.lst (ns.map D.int)]) (r := .fz (.int L)) (evl_cons (ev_frz scs.ow).fz evl_nil) (fun q' => ⟨ns, rfl, by omega, nsp, by rw [hL]; exact q'⟩) fun i z => by cases z
    obtain ⟨L0, _, Ld, Lle⟩ := cmL_ok ns 1 (2 ^ 376) (by decide) nsp
    rw [hL] at L0 Ld Lle
    have L1 : L ≤ 2 ^ 6392 := by
      rw [Int.one_mul] at Lle
      exact Int.le_trans Lle (pw17 (by omega))
    have dv : ∀ p, p ∈ FP → fv p.1 p.2 ∣ L := fun p hp => Ld _ (by rw [← hns]; exact List.mem_map.mpr ⟨p, hp, rfl⟩)
    refine seq_k fun K3 hn3 _ _ _ _ => run_set sc (hn3 _ ?_)
    change wSeq _ _ _ [some (.fz A), some (.fz (.int (w : Int))), some (.fz (.lst T)), some (.fz (.lst LD)), none, some (.fz (.int L)), none, none, none, none]
    refine seq_k fun K4 hn4 _ _ _ _ => run_setO (ev_lst (ds := []) evl_nil (Nat.zero_le _)) (hn4 _ ?_)
    change wSeq _ _ _ (E10n A w T LD none L none ((((List.range 0).filter fun q => !isPiv FP q).map (solR FP w L)).map rowD) none none)
    refine seq_k fun K5 hn5 _ _ _ _ => run_forR (n := w) (evl_cons (vx 1 rfl) evl_nil) (by omega) (lp_ns hw L0 L1 hT.symm hLD.symm (fun p hp => ⟨hF.len p hp, hF.lt p hp, fpos p hp, fb p hp⟩) (fun v4 v6 v8 v9 => hn5 _ ?_) w 0 none none none none (by omega))
    obtain ⟨N, hb2⟩ := null_res hF bas (B := 10 ^ 30) (by decide) rb L0 dv
    have hb3 := hb2.up (num4 w (by omega))
    have sll : (solsL FP w L).length ≤ 17 := by
      unfold solsL
      rw [List.length_map]
      have := frees_len hF
      omega
    obtain ⟨NP, rd2, hN, ⟨n2, s2, bas2, nw2⟩, nb⟩ := red_res N.len hb3
    have npl : NP.length ≤ 17 := by
      have := bas2.len
      rw [prF_len] at this
      omega
    have er2 := ev_reduced (env := E10n A w T LD v4 L v6 ((solsL FP w L).map rowD) v8 v9) (wa := wFrz (wVar 7)) (wb := wFrz (wVar 1)) (rows := solsL FP w L) (w := w) (ev_frzs (i := 7) (o := .lst ((solsL FP w L).map rowD)) rfl).fz (fx 1 rfl) (by omega) (by omega) N.len (fun r h j => by
      obtain ⟨q, _, rfl⟩ := List.mem_map.mp h
      exact solR_abs L0 L1 (fun p hp => ⟨fpos p hp, fb p hp⟩) j) hb3 (Nat.pow_lt_pow_right (by decide) (by decide))
    rw [rd2, map_fst] at er2
    exact run_retO er2 ⟨_, rfl, q FP _ NP hF N hN npl nb⟩
def S_in_span : FSpec := fun args Q _ => ∃ (rows : List (List Int)) (x : List Int) (w : Nat), args = [.fz (.lst (rows.map rowD)), .fz (rowD x)] ∧ w ≤ 17 ∧ rows.length ≤ 99 ∧ (∀ r, r ∈ rows → r.length = w ∧ ∀ j, (fv r j).natAbs ≤ 10 ^ 30) ∧ x.length = w ∧ (∀ j, (fv x j).natAbs ≤ 10 ^ 30) ∧ ∀ b, (b = true ↔ Sp (RW rows) (fv x)) → Q (.fz (.bl b)) args
theorem mS_in_span : MonoF S_in_span := ⟨fun h _ ⟨a, b, c, d, e, f, g, i, j, q⟩ => ⟨a, b, c, d, e, f, g, i, j, fun x y => h _ _ (q x y)⟩⟩
theorem kp_in_span : Keeps S_in_span [] 2 3 (w_in_span S_reduced) where
  fit := fun args Q E ⟨_, _, _, a, _⟩ => a ▸ fit2
  run := fun args Q E ⟨rows, x, w, a, hw, hn, hr, xl, xb, q⟩ => by
    subst a
    unfold w_in_span
    have sz := sizeLine_eq
    have rl : ∀ r, r ∈ rows → r.length = w := fun r h => (hr r h).1
    have rb : ∀ r, r ∈ rows → ∀ j, (fv r j).natAbs ≤ 10 ^ 30 := fun r h => (hr r h).2
    have rl2 : ∀ r, r ∈ rows ++ [x] → r.length = w := fun r h => by
      rcases List.mem_append.mp h with h | h
      · exact rl r h
      · rw [List.mem_singleton.mp h]; exact xl
    have rb2 : ∀ r, r ∈ rows ++ [x] → ∀ j, (fv r j).natAbs ≤ 10 ^ 30 := fun r h => by
      rcases List.mem_append.mp h with h | h
      · exact rb r h
      · rw [List.mem_singleton.mp h]; exact xb
    have hb := (hb_rows (rows := rows) (w := w) (B := 10 ^ 30) (by decide) rb).1
    have hb2 := (hb_rows (rows := rows ++ [x]) (w := w) (B := 10 ^ 30) (by decide) rb2).1
    obtain ⟨FP, rd, hF, _, _⟩ := red_res rl hb
    obtain ⟨FP2, rd2, hF2, _, _⟩ := red_res rl2 hb2
    have c := num5 w (by omega)
    obtain ⟨A, hA⟩ : ∃ A, D.lst (rows.map rowD) = A := ⟨_, rfl⟩
    rw [hA] at q ⊢
    change wSeq _ _ _ [some (.fz A), some (.fz (rowD x)), none]
    have ln := ev_lenS (env := [some (.fz A), some (.fz (rowD x)), none]) (w := wVar 1) (sqT x) (vx 1 rfl)
    rw [xl] at ln
    refine seq_k fun K1 hn1 _ _ _ _ => run_set ln (hn1 _ ?_)
    change wRet _ _ _ [some (.fz A), some (.fz (rowD x)), some (.fz (.int (w : Int)))]
    have v0 : Ev [some (.fz A), some (.fz (rowD x)), some (.fz (.int (w : Int)))] (wVar 0) (.lst (rows.map rowD)) [some (.fz A), some (.fz (rowD x)), some (.fz (.int (w : Int)))] := by rw [hA]; exact vx 0 rfl
    have ad := evR_add v0 (ev_l1 (vx (env := [some (.fz A), some (.fz (rowD x)), some (.fz (.int (w : Int)))]) (d := rowD x) 1 rfl)).ow (by rw [List.length_map]; show _ + 1 ≤ 1000; omega)
    rw [show rows.map rowD ++ [rowD x] = (rows ++ [x]).map rowD by rw [List.map_append]; rfl] at ad
    have e1 := ev_reduced (ev_frz ad.ow).fz (fx 2 rfl) (by omega) (by rw [List.length_append]; show _ + 1 ≤ _; omega) rl2 (fun r h j => Nat.lt_of_le_of_lt (rb2 r h j) num6) hb2 c
    have e2 := ev_reduced (env := [some (.fz A), some (.fz (rowD x)), some (.fz (.int (w : Int)))]) (wa := wFrz (wVar 0)) (wb := wFrz (wVar 2)) (rows := rows) (w := w) (by rw [hA]; exact fx 0 rfl) (fx 2 rfl) (by omega) (by omega) rl (fun r h j => Nat.lt_of_le_of_lt (rb r h j) num6) hb c
    rw [rd2, map_fst] at e1
    rw [rd, map_fst] at e2
    have l1 := ev_lenl e1.ow
    have l2 := ev_lenl e2.ow
    rw [List.length_map] at l1 l2
    refine run_ret (ev_eqi' (k := decide (FP2.length = FP.length)) l1.fz l2.fz (by
      rw [Bool.eq_iff_iff, decide_eq_true_eq, decide_eq_true_eq]
      exact Int.ofNat_inj)) ⟨_, rfl, q _ ?_⟩
    rw [decide_eq_true_eq]
    exact rank_iff xl hF hF2
end LV
namespace LV
open PySem PySem.Spec L2
def S__law_product : FSpec := fun args Q _ => ∃ a b : List Int, args = [.fz (rowD a), .fz (rowD b)] ∧ a.length = b.length ∧ a.length ≤ 900 ∧ (∀ j, (fv a j).natAbs < 2 ^ 8000) ∧ (∀ j, (fv b j).natAbs < 2 ^ 8000) ∧ Q (.fz (.int (dotW a.length (fv a) (fv b)))) args
theorem mS__law_product : MonoF S__law_product := ⟨fun h _ ⟨a, b, c, d, e, f, g, q⟩ => ⟨a, b, c, d, e, f, g, h _ _ q⟩⟩
theorem sum_dot (u v : Vc) : ∀ n, ((List.range n).map fun j => u j * v j).sum = dotW n u v
  | 0 => rfl
  | n + 1 => by
    rw [List.range_succ, List.map_append, List.sum_append, sum_dot u v n]
    show _ + (u n * v n + 0) = sumN n _ + u n * v n
    rw [Int.add_zero]; rfl
theorem kp__law_product : Keeps S__law_product [] 2 3 w__law_product where
  fit := fun args Q E ⟨_, _, a, _⟩ => a ▸ fit2
  run := fun args Q E ⟨a, b, e, hl, h9, ha, hb, q⟩ => by
    subst e
    unfold w__law_product
    change wRet _ _ _ [some (.fz (rowD a)), some (.fz (rowD b)), none]
    have up : ∀ {i : Int}, i.natAbs < 2 ^ 8000 → i.natAbs < 2 ^ 8999 := fun h => Nat.lt_of_lt_of_le h (Nat.pow_le_pow_right (by decide) (by decide))
    have lc := lc_rngL (env := [some (.fz (rowD a)), some (.fz (rowD b)), none]) (e1 := [some (.fz (rowD a)), some (.fz (rowD b)), none]) (i := 2) (n := a.length) (w := wOp2 gMulT (wOp2 gIx (wVar 0) (wVar 2)) (wOp2 gIx (wVar 1) (wVar 2))) (f := fun j => D.int (fv a j * fv b j)) (evl_cons (ev_lenS (sqT a) (vx 0 rfl)).fz evl_nil) (by omega) fun j hj =>
      (ev_mulX (ev_ixS (sqT a) (vx 0 rfl) (vx 2 rfl) hj).fz (ev_ixS (sqT b) (vx 1 rfl) (vx 2 rfl) (by omega)).fz (cm_ok (up (ha j)) (up (hb j)))).fz
    rw [show ((List.range a.length).map fun j => D.int (fv a j * fv b j)) = ((List.range a.length).map fun j => fv a j * fv b j).map D.int by rw [List.map_map]; rfl] at lc
    rw [← sum_dot] at q
    exact run_ret (ev_blt (g := gSum) (evl_cons lc.ow evl_nil) fun Q' q => ⟨_, rfl, q⟩) ⟨_, rfl, q⟩
section
variable {rest : List (Option Val)} {w wa wb wi : EW} {P P1 P2 : D → Prop} {c c1 c2 : Nat} {i N : Nat} {ds : List D} {K : Ks} {o : O} {m : Nat}
theorem b_forR {tg : Tg} {body : SW} (h : EvB rest w (fun d => ∃ n : Nat, d = .int (n : Int) ∧ n ≤ N) c) (hN : N ≤ 900) (bg : BagOk o (m : Int)) (hm : m + c ≤ 100000) (q : ∀ n o', n ≤ N → BagOk o' ((m + c : Nat) : Int) → loopW tg body yesK K (rngD 0 n) (some (.ow o') :: rest)) : wFor tg (wRng1 (wCons w wNil)) body K (some (.ow o) :: rest) := by
  show wFz w (some (.ow o) :: rest) (fun r e => ∃ j, lookL e [r] = some [.int j] ∧ okR j ∧ loopW tg body yesK K (rngD 0 j.toNat) e) K.ex
  unfold wFz
  refine h.go bg hm fun d o' ⟨n, e, hn⟩ b => ?_
  subst e
  exact ⟨(n : Int), rfl, by unfold okR; omega, by rw [Int.toNat_natCast]; exact q n o' hn b⟩
end
def TB (w : Nat) : Nat := 9 * eB w + 9
def S__law_tried : FSpec := fun args Q _ => ∃ (o : O) (m w : Nat) (rows : List (List Int)), args = [.ow o, .fz (.lst (rows.map rowD)), .fz (.int (w : Int))] ∧ BagOk o (m : Int) ∧ m + 60 ≤ 100000 ∧ 1 ≤ w ∧ w ≤ 17 ∧ rows.length ≤ 100 ∧ (∀ r, r ∈ rows → r.length = w ∧ ∀ j, (fv r j).natAbs ≤ eB w) ∧
  ∀ (xs : List (List Int)) o', (∀ x, x ∈ xs → x.length = w ∧ ∀ j, (fv x j).natAbs ≤ TB w) → BagOk o' ((m + 60 : Nat) : Int) → Q (.ow (.lst (xs.map rowD))) [.ow o', .fz (.lst (rows.map rowD)), .fz (.int (w : Int))]
theorem mS__law_tried : MonoF S__law_tried := ⟨fun h _ ⟨o, m, w, r, a, b, c, d, e, f, g, q⟩ => ⟨o, m, w, r, a, b, c, d, e, f, g, fun x y h1 h2 => h _ _ (q x y h1 h2)⟩⟩
theorem fitO0x {o : O} {d d' : D} : ArgsFit [0] 3 [.ow o, .fz d, .fz d'] := ⟨rfl, fun j o h => by rcases j with _ | _ | _ | j <;> simp at h ⊢, fun j a C ks vs h => by rcases j with _ | _ | _ | j <;> simp at h⟩
abbrev R9 (A : D) (w : Nat) (v3 v4 v5 v6 v7 v8 : Option Val) : List (Option Val) := [some (.fz A), some (.fz (.int (w : Int))), v3, v4, v5, v6, v7, v8]
def trB : SW := (wSeq (wSet 5 (wOp2 gIx (wVar 1) (wCall S__law_take (wCons (wVar 0) (wCons (wFrz (wBlt gLen (wCons (wVar 1) wNil))) wNil)))))
  (wSet 3 (wCall S__law_sum (wCons (wFrz (wVar 3)) (wCons (wC (.int 1)) (wCons (wFrz (wVar 5)) (wCons (wFrz (wOp2 gSub (wCall S__law_take (wCons (wVar 0) (wCons (wC (.int 7)) wNil))) (wC (.int 3)))) wNil)))))))
theorem eB8000 {w n : Nat} {r : List Int} (hn : n ≤ 20) (h : ∀ j, (fv r j).natAbs ≤ n * eB w) : ∀ j, (fv r j).natAbs < 2 ^ 8000 := fun j => by
  have h1 := h j
  have h2 := eB_lt w
  have h3 : n * eB w ≤ 20 * eB w := Nat.mul_le_mul_right _ hn
  exact Nat.lt_of_lt_of_le (show _ < 2 ^ 65 by omega) (Nat.pow_le_pow_right (by decide) (by decide))
theorem tr_lp {w : Nat} {rows : List (List Int)} {K : Ks} {v6 v7 v8 : Option Val} (hw : w ≤ 17) (hn : rows ≠ []) (hl : rows.length ≤ 100) (hr : ∀ r, r ∈ rows → r.length = w ∧ ∀ j, (fv r j).natAbs ≤ eB w) : ∀ (j k : Nat) (lo : Int) (bl : List Int) (o : O) (m : Nat) (v4 v5 : Option Val), k + j ≤ 3 → bl.length = w → (∀ j, (fv bl j).natAbs ≤ (3 * k) * eB w) → BagOk o (m : Int) → m + 2 * j ≤ 100000 →
    (∀ bl o' v4 v5, bl.length = w → (∀ j, (fv bl j).natAbs ≤ 9 * eB w) → BagOk o' ((m + 2 * j : Nat) : Int) → K.nx (some (.ow o') :: R9 (.lst (rows.map rowD)) w (some (.fz (rowD bl))) v4 v5 v6 v7 v8)) →
    loopW (.n 4) trB yesK K (rngD lo j) (some (.ow o) :: R9 (.lst (rows.map rowD)) w (some (.fz (rowD bl))) v4 v5 v6 v7 v8)
  | 0, k, lo, bl, o, m, v4, v5, hk, bll, blb, bg, hm, q => ⟨True.intro, q bl o v4 v5 bll (fun j => Nat.le_trans (blb j) (Nat.mul_le_mul_right _ (by omega))) bg⟩
  | j + 1, k, lo, bl, o, m, v4, v5, hk, bll, blb, bg, hm, q => by
    refine ⟨True.intro, _, rfl, ?_⟩
    show trB _ (some (.ow o) :: R9 (.lst (rows.map rowD)) w (some (.fz (rowD bl))) (some (.fz (.int lo))) v5 v6 v7 v8)
    unfold trB
    have l1 : 1 ≤ rows.length := by
      cases rows with
      | nil => exact absurd rfl hn
      | cons a l => rw [List.length_cons]; omega
    have go := fun (bl' : List Int) (o' : O) (v4 v5 : Option Val) (a : bl'.length = w) (b : ∀ j, (fv bl' j).natAbs ≤ (3 * (k + 1)) * eB w) (c : BagOk o' ((m + 2 : Nat) : Int)) => tr_lp (K := K) (v6 := v6) (v7 := v7) (v8 := v8) hw hn hl hr j (k + 1) (lo + 1) bl' o' (m + 2) v4 v5 (by omega) a b c (by omega) fun bl o' v4 v5 a b c => q bl o' v4 v5 a b (by rw [show m + 2 * (j + 1) = m + 2 + 2 * j by omega]; exact c)
    have dr := b_draw (rest := R9 (.lst (rows.map rowD)) w (some (.fz (rowD bl))) (some (.fz (.int lo))) v5 v6 v7 v8) (rows.length : Int) (by omega) (by omega) (wn := wFrz (wBlt gLen (wCons (wVar 1) wNil))) fun o => by
      have := ev_lenl (env := some (.ow o) :: R9 (.lst (rows.map rowD)) w (some (.fz (rowD bl))) (some (.fz (.int lo))) v5 v6 v7 v8) (w := wVar 1) (ds := rows.map rowD) (vx 1 rfl)
      rw [List.length_map] at this
      exact (ev_frz this.fz).fz
    have pick : EvB (R9 (.lst (rows.map rowD)) w (some (.fz (rowD bl))) (some (.fz (.int lo))) v5 v6 v7 v8) (wOp2 gIx (wVar 1) (wCall S__law_take (wCons (wVar 0) (wCons (wFrz (wBlt gLen (wCons (wVar 1) wNil))) wNil)))) (fun d => ∃ r, d = rowD r ∧ r ∈ rows) (0 + 1) :=
      b_op (b_var 0 rfl (P := fun d => d = .lst (rows.map rowD)) rfl) dr fun a b ea ⟨x, e, x0, x1⟩ Q' q => by
        subst ea e
        obtain ⟨i, rfl⟩ := nat_of x0
        have hi : i < rows.length := by omega
        exact ix_l (by rw [List.getElem?_map, List.getElem?_eq_getElem hi]; rfl) (q _ ⟨rows[i], rfl, List.getElem_mem hi⟩)
    refine seq_k fun K1 hn1 _ _ _ _ => b_set (i := 4) pick bg (by omega) fun d o1 ⟨r, e, rm⟩ bg1 => hn1 _ ?_
    subst e
    obtain ⟨rl, rb⟩ := hr r rm
    change wSet _ _ _ (some (.ow o1) :: R9 (.lst (rows.map rowD)) w (some (.fz (rowD bl))) (some (.fz (.int lo))) (some (.fz (rowD r))) v6 v7 v8)
    have sm : EvB (R9 (.lst (rows.map rowD)) w (some (.fz (rowD bl))) (some (.fz (.int lo))) (some (.fz (rowD r))) v6 v7 v8) (wCall S__law_sum (wCons (wFrz (wVar 3)) (wCons (wC (.int 1)) (wCons (wFrz (wVar 5)) (wCons (wFrz (wOp2 gSub (wCall S__law_take (wCons (wVar 0) (wCons (wC (.int 7)) wNil))) (wC (.int 3)))) wNil))))) (fun d => ∃ x, d = rowD x ∧ x.length = w ∧ ∀ j, (fv x j).natAbs ≤ (3 * (k + 1)) * eB w) (0 + (0 + (0 + (1 + 0)))) :=
      b_callL (bl_cons (b_frz (b_var 2 rfl (P := fun d => d = rowD bl) rfl)) (bl_cons (b_c (P := fun d => d = .int 1) rfl) (bl_cons (b_frz (b_var 4 rfl (P := fun d => d = rowD r) rfl)) (bl_cons (b_frz (b_sub (bDr _ 7))) bl_nil)))) fun ds ⟨d1, t1, e1, f1, d2, t2, e2, f2, d3, t3, e3, f3, d4, t4, e4, ⟨g, f4, hg⟩, e5⟩ Q' E' q' => by
        subst e1 e2 e3 e4 e5 f1 f2 f3 f4
        refine ⟨bl, r, 1, g, rfl, by rw [bll, rl], by omega, eB8000 (by omega) blb, eB8000 (n := 1) (by omega) (fun j => by rw [Nat.one_mul]; exact rb j), by decide, hg, q' _ ⟨_, rfl, by rw [sumR_len (by rw [bll, rl])]; exact bll, fun j => ?_⟩⟩
        rw [sumR_fv (by rw [bll, rl]), Int.one_mul]
        have h1 := blb j
        have h2 := rb j
        have h3 : (g * fv r j).natAbs ≤ 3 * eB w := by rw [Int.natAbs_mul]; exact Nat.mul_le_mul hg h2
        have h4 := Int.natAbs_add_le (fv bl j) (g * fv r j)
        have h5 : (3 * (k + 1)) * eB w = (3 * k) * eB w + 3 * eB w := by rw [Nat.mul_succ, Nat.add_mul]
        omega
    refine b_set (i := 2) sm bg1 (by omega) fun d o2 ⟨x, e, xl, xb⟩ bg2 => ?_
    subst e
    exact go x o2 _ _ xl xb (bg2.mono (by omega))
def trT : SW := wSeq (wSet 6 (wCall S__law_take (wCons (wVar 0) (wCons (wFrz (wVar 2)) wNil))))
  (wSeq (wSet 7 (wOp2 gAdd (wOp2 gAdd (wSl (wVar 3) wNoP (wPt (wVar 6))) (wTup (wCons (wOp2 gAdd (wOp2 gAdd (wOp2 gIx (wVar 3) (wVar 6)) (wC (.int 1))) (wCall S__law_take (wCons (wVar 0) (wCons (wC (.int 9)) wNil)))) wNil))) (wSl (wVar 3) (wPt (wOp2 gAdd (wVar 6) (wC (.int 1)))) wNoP)))
  (wSeq (wSet 8 (wBlt gTuple (wCons (wLc (.n 4) (wRng1 (wCons (wVar 2) wNil)) uYes (wOp2 gSub (wCall S__law_take (wCons (wVar 0) (wCons (wC (.int 11)) wNil))) (wC (.int 5))) [4]) wNil)))
  (wRet [0] (wLst (wCons (wVar 3) (wCons (wBlt gTuple (wCons (wCall S__law_primitive (wCons (wFrz (wVar 3)) wNil)) wNil)) (wCons (wVar 7) (wCons (wVar 8) (wCons (wBlt gTuple (wCons (wOp2 gMulT (wLst (wCons (wC (.int 0)) wNil)) (wVar 2)) wNil)) wNil)))))))))
theorem bo_lcW {restf : Option Val → List (Option Val)} {wl : AW} {w : EW} {P : D → Prop} {c i k m : Nat} {o : O} {v : Option Val} {Q : Rv → En → Prop} {E : XW} (h1 : ∀ v v', (restf v).set i v' = restf v') (hl : EvL (some (.ow o) :: restf v) wl [.int (k : Int)] (some (.ow o) :: restf v)) (hk : k ≤ 1000) (hw : ∀ x : Int, EvB (restf (some (.fz (.int x)))) w P c) (bg : BagOk o (m : Int)) (hm : m + c * k ≤ 100000)
    (q : ∀ ds o', ds.length = k → (∀ x ∈ ds, P x) → BagOk o' ((m + c * k : Nat) : Int) → Q (.ow (.lst ds)) (some (.ow o') :: restf none)) : wLc (.n (i + 1)) (wRng1 wl) uYes w [i + 1] (some (.ow o) :: restf v) Q E := by
  refine hl.go ⟨(k : Int), rfl, by unfold okR; omega, ?_⟩
  rw [Int.toNat_natCast]
  have e : wipeE (some (.ow o) :: restf v) [i + 1] = some (.ow o) :: restf none := by
    simp only [wipeE, List.set_cons_succ]
    rw [h1]
  show compW (.n (i + 1)) uYes w [i + 1] yesK (fun acc e' => Q (Rv.ow (O.lst acc)) e') (rngD 0 k) [] (wipeE (some (.ow o) :: restf v) [i + 1])
  rw [e]
  exact comp_b h1 hw k 0 [] o m (fun _ z => nomatch z) bg hm (by rw [List.length_nil]; omega) fun ds o' a p b => q _ o' (by rw [List.length_nil] at a; omega) p b
theorem set_tupX {w : EW} {Qs : List D → O → Prop} {rest rest' : List (Option Val)} {o : O} {i : Nat} {K : Ks} (h : ∀ {Q : Rv → En → Prop} {E : XW}, (∀ ds o', Qs ds o' → Q (.ow (.lst ds)) (some (.ow o') :: rest')) → w (some (.ow o) :: rest) Q E) (q : ∀ ds o', Qs ds o' → K.nx ((some (.ow o') :: rest').set i (some (.fz (.tup ds))))) : wSet i (wBlt gTuple (wCons w wNil)) K (some (.ow o) :: rest) :=
  h fun ds o' k => ⟨[.lst ds], rfl, q ds o' k⟩
theorem ints_of {B : Nat} : ∀ ds : List D, (∀ x ∈ ds, ∃ z : Int, x = .int z ∧ z.natAbs ≤ B) → ∃ zs : List Int, ds = zs.map D.int ∧ zs.length = ds.length ∧ ∀ z ∈ zs, z.natAbs ≤ B
  | [], _ => ⟨[], rfl, rfl, fun _ h => nomatch h⟩
  | x :: ds, h => by
    obtain ⟨z, rfl, hz⟩ := h x List.mem_cons_self
    obtain ⟨zs, rfl, e2, e3⟩ := ints_of ds fun y hy => h y (List.mem_cons_of_mem _ hy)
    exact ⟨z :: zs, rfl, by rw [List.length_cons, List.length_cons, e2], fun y hy => by
      rcases List.mem_cons.mp hy with rfl | hy
      · exact hz
      · exact e3 y hy⟩
theorem fv_bump {l : List Int} {p : Nat} {x : Int} (h : p < l.length) : l.take p ++ [x] ++ l.drop (p + 1) = l.set p x := by
  rw [List.set_eq_take_append_cons_drop, if_pos h, List.append_assoc]; rfl
theorem kp__law_tried : Keeps S__law_tried [0] 3 9 (w__law_tried S__law_take S__law_sum S__law_primitive) where
  fit := fun args Q E ⟨_, _, _, _, a, _⟩ => a ▸ fitO0x
  run := fun args Q E ⟨o, m, w, rows, e, bg, hm, w1, w17, hl, hr, q⟩ => by
    subst e
    unfold w__law_tried
    have sz := sizeLine_eq
    change wSeq _ _ _ (some (.ow o) :: R9 (.lst (rows.map rowD)) w none none none none none none)
    refine seq_k fun K1 hn1 _ _ _ _ => run_set (ev_zeroR (vx 2 rfl) (by omega)) (hn1 _ ?_)
    change wSeq _ _ _ (some (.ow o) :: R9 (.lst (rows.map rowD)) w (some (.fz (rowD (zeroR w)))) none none none none none)
    have tail : ∀ (bl : List Int) (o1 : O) (v4 v5 : Option Val), bl.length = w → (∀ j, (fv bl j).natAbs ≤ 9 * eB w) → BagOk o1 ((m + 10 : Nat) : Int) → trT (KsFn [0] [.ow o, .fz (.lst (rows.map rowD)), .fz (.int (w : Int))] Q E) (some (.ow o1) :: R9 (.lst (rows.map rowD)) w (some (.fz (rowD bl))) v4 v5 none none none) := fun bl o1 v4 v5 bll blb bg1 => by
      unfold trT
      refine seq_k fun K2 hn2 _ _ _ _ => b_set (i := 5) (b_draw (w : Int) (by omega) (by omega) (wn := wFrz (wVar 2)) fun o => fx 2 rfl) bg1 (by omega) fun d o2 ⟨x, e, x0, x1⟩ bg2 => hn2 _ ?_
      subst e
      obtain ⟨p, rfl⟩ := nat_of x0
      have hp : p < w := by omega
      obtain ⟨A, hA⟩ : ∃ A, D.lst (rows.map rowD) = A := ⟨_, rfl⟩
      rw [hA] at q ⊢
      change wSeq _ _ _ (some (.ow o2) :: R9 A w (some (.fz (rowD bl))) v4 v5 (some (.fz (.int (p : Int)))) none none)
      have tk : ∀ o, EvR (some (.ow o) :: R9 A w (some (.fz (rowD bl))) v4 v5 (some (.fz (.int (p : Int)))) none none) (wSl (wVar 3) wNoP (wPt (wVar 6))) (.fz (.tup ((bl.map D.int).take p))) (some (.ow o) :: R9 A w (some (.fz (rowD bl))) v4 v5 (some (.fz (.int (p : Int)))) none none) := fun o => by
        have := ev_slTR (env := some (.ow o) :: R9 A w (some (.fz (rowD bl))) v4 v5 (some (.fz (.int (p : Int)))) none none) (w := wVar 3) (wa := wVar 6) (ds := bl.map D.int) (i := (p : Int)) (vx 3 rfl) (ev_var rfl)
        rw [cut_take] at this
        exact this
      have dp : ∀ o, EvR (some (.ow o) :: R9 A w (some (.fz (rowD bl))) v4 v5 (some (.fz (.int (p : Int)))) none none) (wSl (wVar 3) (wPt (wOp2 gAdd (wVar 6) (wC (.int 1)))) wNoP) (.fz (.tup ((bl.map D.int).drop (p + 1)))) (some (.ow o) :: R9 A w (some (.fz (rowD bl))) v4 v5 (some (.fz (.int (p : Int)))) none none) := fun o => by
        have ad := ev_addi (vx (env := some (.ow o) :: R9 A w (some (.fz (rowD bl))) v4 v5 (some (.fz (.int (p : Int)))) none none) (d := .int (p : Int)) 6 rfl) (cx (d := .int 1))
        have := ev_slTL (env := some (.ow o) :: R9 A w (some (.fz (rowD bl))) v4 v5 (some (.fz (.int (p : Int)))) none none) (w := wVar 3) (ds := bl.map D.int) (vx 3 rfl) ad
        rw [show (p : Int) + 1 = ((p + 1 : Nat) : Int) by omega, cut_drop] at this
        exact this
      have ix : ∀ o, EvR (some (.ow o) :: R9 A w (some (.fz (rowD bl))) v4 v5 (some (.fz (.int (p : Int)))) none none) (wOp2 gIx (wVar 3) (wVar 6)) (.fz (.int (fv bl p))) (some (.ow o) :: R9 A w (some (.fz (rowD bl))) v4 v5 (some (.fz (.int (p : Int)))) none none) := fun o => ev_ixS (sqT bl) (vx 3 rfl) (vx 6 rfl) (by omega)
      have nw : EvB (R9 A w (some (.fz (rowD bl))) v4 v5 (some (.fz (.int (p : Int)))) none none) (wOp2 gAdd (wOp2 gAdd (wOp2 gIx (wVar 3) (wVar 6)) (wC (.int 1))) (wCall S__law_take (wCons (wVar 0) (wCons (wC (.int 9)) wNil)))) (fun d => ∃ y : Int, d = .int y ∧ y.natAbs ≤ TB w) (0 + 1) :=
        b_op (b_pure (P := fun d => d = .int (fv bl p + 1)) (fun o => ev_addi (ix o).fz cx) rfl) (bDr _ 9) fun a b ea ⟨y, e, y0, y1⟩ Q' q => by
          subst ea e
          rw [gAdd_ii]
          refine q _ ⟨_, rfl, ?_⟩
          have := blb p
          unfold TB
          omega
      have bump : EvB (R9 A w (some (.fz (rowD bl))) v4 v5 (some (.fz (.int (p : Int)))) none none) (wOp2 gAdd (wOp2 gAdd (wSl (wVar 3) wNoP (wPt (wVar 6))) (wTup (wCons (wOp2 gAdd (wOp2 gAdd (wOp2 gIx (wVar 3) (wVar 6)) (wC (.int 1))) (wCall S__law_take (wCons (wVar 0) (wCons (wC (.int 9)) wNil)))) wNil))) (wSl (wVar 3) (wPt (wOp2 gAdd (wVar 6) (wC (.int 1)))) wNoP)) (fun d => ∃ y : Int, d = rowD (bl.set p y) ∧ y.natAbs ≤ TB w) ((0 + ((0 + 1) + 0)) + 0) :=
        b_op (P1 := fun d => ∃ y : Int, d = .tup ((bl.map D.int).take p ++ [.int y]) ∧ y.natAbs ≤ TB w) (P2 := fun d => d = .tup ((bl.map D.int).drop (p + 1)))
          (b_op (P1 := fun d => d = .tup ((bl.map D.int).take p)) (b_pure tk rfl) (b_tup (bl_cons nw bl_nil) fun ds ⟨d, t, e, _, e2⟩ => by rw [e, e2]; show 1 ≤ _; omega) fun a b ea ⟨ds, eb, d, t, e, ⟨y, ey, hy⟩, e2⟩ Q' q => by
            subst ea eb e e2 ey
            exact ⟨by rw [List.length_take, List.length_map]; show _ + 1 ≤ _; omega, q _ ⟨y, rfl, hy⟩⟩)
          (b_pure dp rfl) fun a b ⟨y, ea, hy⟩ eb Q' q => by
            subst ea eb
            refine ⟨by rw [List.length_append, List.length_take, List.length_drop, List.length_map]; show _ + 1 + _ ≤ _; omega, ?_⟩
            have e : (bl.map D.int).take p ++ [.int y] ++ (bl.map D.int).drop (p + 1) = (bl.set p y).map D.int := by
              rw [← fv_bump (by omega), List.map_append, List.map_append, List.map_take, List.map_drop]; rfl
            rw [e]
            exact q _ ⟨y, rfl, hy⟩
      refine seq_k fun K3 hn3 _ _ _ _ => b_set (i := 6) bump bg2 (by omega) fun d o3 ⟨y, e, hy⟩ bg3 => hn3 _ ?_
      subst e
      change wSeq _ _ _ (some (.ow o3) :: R9 A w (some (.fz (rowD bl))) v4 v5 (some (.fz (.int (p : Int)))) (some (.fz (rowD (bl.set p y)))) none)
      refine seq_k fun K4 hn4 _ _ _ _ => ?_
      have it : ∀ x : Int, EvB (R9 A w (some (.fz (rowD bl))) (some (.fz (.int x))) v5 (some (.fz (.int (p : Int)))) (some (.fz (rowD (bl.set p y)))) none) (wOp2 gSub (wCall S__law_take (wCons (wVar 0) (wCons (wC (.int 11)) wNil))) (wC (.int 5))) (fun d => ∃ z : Int, d = .int z ∧ z.natAbs ≤ 5) (1 + 0) := fun x => b_op (bDr _ 11) (b_c (P := fun d => d = .int 5) rfl) fun a b ⟨z, e, z0, z1⟩ eb Q' q => by
        subst e eb
        rw [gSub_ii]
        exact q _ ⟨_, rfl, by omega⟩
      refine set_tupX (Qs := fun ds o' => ds.length = w ∧ (∀ x ∈ ds, ∃ z : Int, x = .int z ∧ z.natAbs ≤ 5) ∧ BagOk o' ((m + 12 + 1 * w : Nat) : Int)) (rest' := R9 A w (some (.fz (rowD bl))) none v5 (some (.fz (.int (p : Int)))) (some (.fz (rowD (bl.set p y)))) none) (fun {Q' E'} q' => bo_lcW (m := m + 12) (i := 3) (k := w) (restf := fun v => R9 A w (some (.fz (rowD bl))) v v5 (some (.fz (.int (p : Int)))) (some (.fz (rowD (bl.set p y)))) none) (v := v4) (fun _ _ => rfl) (evl_cons (vx 2 rfl) evl_nil) (by omega) it bg3 (by omega) fun ds o4 dl dz bg4 => q' ds o4 ⟨dl, dz, bg4⟩) fun ds o4 ⟨dl, dz, bg4⟩ => hn4 _ ?_
      obtain ⟨zs, rfl, zl, zb⟩ := ints_of ds dz
      change wRet _ _ _ (some (.ow o4) :: R9 A w (some (.fz (rowD bl))) none v5 (some (.fz (.int (p : Int)))) (some (.fz (rowD (bl.set p y)))) (some (.fz (rowD zs))))
      have blx : ∀ x, x ∈ bl → x.natAbs < 2 ^ 8999 := fun x hx => by
        obtain ⟨j, _, e⟩ := fv_mem hx
        rw [← e]
        exact Nat.lt_of_lt_of_le (eB8000 (n := 9) (by omega) blb j) (Nat.pow_le_pow_right (by decide) (by decide))
      have pr := ev_tuple (ev_primitive (env := some (.ow o4) :: R9 A w (some (.fz (rowD bl))) none v5 (some (.fz (.int (p : Int)))) (some (.fz (rowD (bl.set p y)))) (some (.fz (rowD zs)))) (w := wFrz (wVar 3)) (fx 3 rfl) (sqT bl) (by omega) blx).ow
      have tb : ∀ x, x ∈ [bl, primL bl, bl.set p y, zs, zeroR w] → x.length = w ∧ ∀ j, (fv x j).natAbs ≤ TB w := fun x hx => by
        have t9 : 9 * eB w ≤ TB w := by unfold TB; omega
        rcases List.mem_cons.mp hx with rfl | hx
        · exact ⟨bll, fun j => Nat.le_trans (blb j) t9⟩
        rcases List.mem_cons.mp hx with rfl | hx
        · exact ⟨by rw [primL_len]; exact bll, fun j => Nat.le_trans (primL_abs bl j) (Nat.le_trans (blb j) t9)⟩
        rcases List.mem_cons.mp hx with rfl | hx
        · refine ⟨by rw [List.length_set]; exact bll, fun j => ?_⟩
          rw [fv_set]
          split
          · exact hy
          · exact Nat.le_trans (blb j) t9
        rcases List.mem_cons.mp hx with rfl | hx
        · refine ⟨by rw [zl]; exact dl, fun j => ?_⟩
          by_cases z : j < x.length
          · have := zb _ (fv_in z)
            unfold TB; omega
          · rw [fv_out (by omega)]; exact Nat.zero_le _
        rw [List.mem_singleton.mp hx]
        exact ⟨zeroR_len w, fun j => by rw [zeroR_fv]; exact Nat.zero_le _⟩
      refine run_retO (ev_lst (ds := [rowD bl, rowD (primL bl), rowD (bl.set p y), rowD zs, rowD (zeroR w)]) (evl_cons (vx 3 rfl) (evl_cons pr.fz (evl_cons (vx 7 rfl) (evl_cons (vx 8 rfl) (evl_cons (ev_zeroR (vx 2 rfl) (by omega)).fz evl_nil))))) (by show 5 ≤ _; omega)) ⟨_, rfl, q [bl, primL bl, bl.set p y, zs, zeroR w] o4 tb (bg4.mono (by omega))⟩
    have zb : ∀ j, (fv (zeroR w) j).natAbs ≤ (3 * 0) * eB w := fun j => by rw [zeroR_fv]; exact Nat.zero_le _
    by_cases hn : rows = []
    · refine sk_f (evt_tru (k := false) (vx (d := .lst (rows.map rowD)) 1 rfl) (by rw [hn]; rfl)) ?_
      exact tail (zeroR w) o none none (zeroR_len w) (fun j => Nat.le_trans (zb j) (Nat.mul_le_mul_right _ (by omega))) (bg.mono (by omega))
    · refine seq_k fun K2 hn2 _ _ _ _ => run_if_t (evt_tru (k := true) (vx (d := .lst (rows.map rowD)) 1 rfl) (by cases rows with
        | nil => exact absurd rfl hn
        | cons a l => rfl)) ?_
      refine b_forR (N := 3) (b_w (bDr _ 4) fun d ⟨x, e, x0, x1⟩ => by
        obtain ⟨n, rfl⟩ := nat_of x0
        exact ⟨n, e, by omega⟩) (by omega) bg (by omega) fun n o1 hn3 bg1 => ?_
      refine tr_lp w17 hn hl hr n 0 0 (zeroR w) o1 (m + 1) none none (by omega) (zeroR_len w) zb bg1 (by omega) fun bl o2 v4 v5 a b c => hn2 _ ?_
      exact tail bl o2 v4 v5 a b (c.mono (by omega))
end LV
namespace LV
open PySem PySem.Spec L2
noncomputable def spB (rows : List (List Int)) (x : List Int) : Bool := @decide (Sp (RW rows) (fv x)) (Classical.propDecidable _)
theorem spB_iff {rows : List (List Int)} {x : List Int} : spB rows x = true ↔ Sp (RW rows) (fv x) := by
  unfold spB
  exact @decide_eq_true_iff _ (Classical.propDecidable _)
theorem spB_eq {rows : List (List Int)} {x : List Int} {b : Bool} (h : b = true ↔ Sp (RW rows) (fv x)) : b = spB rows x := by
  rw [Bool.eq_iff_iff, h, spB_iff]
theorem leadI_neg {r : List Int} : leadI r < 0 ↔ ∀ j, fv r j = 0 := by
  unfold leadI
  constructor
  · intro h
    split at h
    · omega
    · intro j
      by_cases z : j < r.length
      · exact leadL_low r j (by have := leadL_le r; omega)
      · exact fv_out (by omega)
  · intro h
    rw [if_neg (by rw [leadL_none h]; exact Nat.lt_irrefl _)]
    decide
theorem eB30 (w : Nat) : eB w ≤ 10 ^ 30 := Nat.le_trans (Nat.le_of_lt (eB_lt w)) (by decide)
theorem TB60 (w : Nat) : TB w < 2 ^ 60 := by
  have h : eB w ≤ 2 ^ 51 := by unfold eB; split <;> decide
  unfold TB
  omega
theorem TB30 (w : Nat) : TB w ≤ 10 ^ 30 := Nat.le_trans (Nat.le_of_lt (TB60 w)) (by decide)
def GoodS (w : Nat) (rows : List (List Int)) : Prop := ∀ r, r ∈ rows → r.length = w ∧ ∀ j, (fv r j).natAbs ≤ eB w
theorem keF : PairF keD := fun p => ⟨.lst (p.2.map D.int), rfl, sqL p.2⟩
section
variable {env e1 e2 : En} {wa wb : EW} {rows : List (List Int)} {x : List Int} {w : Nat}
theorem ev_in_span (ha : Ev env wa (.lst (rows.map rowD)) e1) (hb : Ev e1 wb (rowD x) e2) (hw : w ≤ 17) (hn : rows.length ≤ 99) (hg : GoodS w rows) (xl : x.length = w) (xb : ∀ j, (fv x j).natAbs ≤ 10 ^ 30) : EvR env (wCall S_in_span (wCons wa (wCons wb wNil))) (.fz (.bl (spB rows x))) e2 :=
  ev_call (S := S_in_span) (ds := [.lst (rows.map rowD), rowD x]) (evl_cons ha (evl_cons hb evl_nil)) (fun q => ⟨rows, x, w, rfl, hw, hn, fun r hr => ⟨(hg r hr).1, fun j => Nat.le_trans ((hg r hr).2 j) (eB30 w)⟩, xl, xb, fun b hb => by rw [spB_eq hb]; exact q⟩) fun i z => by cases z
theorem ech_facts (hw : w ≤ 17) (hg : GoodS w rows) : HB w (2 ^ 376) (RW rows) ∧ (∀ p, p ∈ echL rows [] → p.2.length = w ∧ p.1 < w ∧ ∀ j, (fv p.2 j).natAbs ≤ 2 ^ 376) ∧ (echL rows []).length ≤ w := by
  have hb := ((hb_rows (rows := rows) (w := w) (eB_pos w) fun r hr => (hg r hr).2).2).up (num1 w (by omega))
  obtain ⟨h1, h2⟩ := ech_bound hb (fun v ⟨r, hr, e⟩ j hj => by rw [e]; exact fv_out (by rw [(hg r hr).1]; exact hj)) rows _ [] _ _ _ einv_nil (fun _ h => nomatch h) fun a ha => ⟨(hg a ha).1, a, ha, rfl⟩
  exact ⟨hb, h1, h2⟩
theorem ev_kept (ha : Ev env wa (.lst ((echL rows []).map keD)) e1) (hb : Ev e1 wb (rowD x) e2) (hw : w ≤ 17) (hg : GoodS w rows) (xl : x.length = w) (xb : ∀ j, (fv x j).natAbs ≤ TB w) : EvR env (wCall S__law_spans (wCons wa (wCons wb wNil))) (.fz (.bl (spB rows x))) e2 := by
  obtain ⟨hbd, k1, k2⟩ := ech_facts hw hg
  have e : decide (leadI (spanL (echL rows []) x) < 0) = spB rows x := spB_eq (by
    rw [decide_eq_true_eq, leadI_neg]
    exact ech_iff (fun r hr => (hg r hr).1) hbd xl)
  exact ev_call (S := S__law_spans) (ds := [.lst ((echL rows []).map keD), rowD x]) (evl_cons ha (evl_cons hb evl_nil)) (fun q => ⟨keD, echL rows [], x, w, rfl, keF, xl, by omega, fun p hp => ⟨(k1 p hp).1, (k1 p hp).2.1, fun j => Nat.lt_of_le_of_lt ((k1 p hp).2.2 j) (Nat.pow_lt_pow_right (by decide) (by decide))⟩, span_small (fun p hp => ⟨(k1 p hp).1, (k1 p hp).2.2⟩) xl (by omega) fun j => Nat.lt_of_le_of_lt (xb j) (TB60 w), by rw [e]; exact q⟩) fun i z => by cases z
end
def S__law_judged : FSpec := fun args Q _ => ∃ (rows xs : List (List Int)) (w : Nat), args = [.fz (.lst (rows.map rowD)), .fz (.lst ((echL rows []).map keD)), .fz (.lst (xs.map rowD))] ∧ w ≤ 17 ∧ rows.length ≤ 99 ∧ GoodS w rows ∧ (∀ x, x ∈ xs → x.length = w ∧ ∀ j, (fv x j).natAbs ≤ TB w) ∧ Q (.fz (.bl true)) args
theorem mS__law_judged : MonoF S__law_judged := ⟨fun h _ ⟨a, b, c, d, e, f, g, i, q⟩ => ⟨a, b, c, d, e, f, g, i, h _ _ q⟩⟩
def judB : SW := (wSeq (wSet 4 (wBlt gList (wCons (wVar 0) wNil)))
  (wSeq (wSet 5 (wCall S_in_span (wCons (wFrz (wVar 4)) (wCons (wFrz (wVar 3)) wNil))))
  (wSeq (wIf (wB (wOp2 gNe (wVar 4) (wVar 0)))
  (wRet [] (wC (.bl false)))
  wSkip)
  (wSeq (wIf (wtAnd (wTru (wCall S__law_spans (wCons (wFrz (wVar 1)) (wCons (wFrz (wVar 3)) wNil)))) (wB (wOp2 gIsNotB (wVar 5) (wC (.bl true)))))
  (wRet [] (wC (.bl false)))
  wSkip)
  (wIf (wtAnd (wtNot (wTru (wCall S__law_spans (wCons (wFrz (wVar 1)) (wCons (wFrz (wVar 3)) wNil))))) (wB (wOp2 gIsNotB (wVar 5) (wC (.bl false)))))
  (wRet [] (wC (.bl false)))
  wSkip)))))
theorem ev_isnb {env e1 e2 : En} {wa wb : EW} {b k : Bool} (ha : Ev env wa (.bl b) e1) (hb : Ev e1 wb (.bl k) e2) : EvR env (wOp2 gIsNotB wa wb) (.fz (.bl (!(b == k)))) e2 := ev_op ha hb fun Q' q => ⟨k, rfl, q⟩
theorem lp_jud {rows : List (List Int)} {w : Nat} {X A B : D} {K : Ks} (hw : w ≤ 17) (hn : rows.length ≤ 99) (hg : GoodS w rows) (hA : D.lst (rows.map rowD) = A) (hB : D.lst ((echL rows []).map keD) = B) (q : ∀ v3 v4 v5, K.nx [some (.fz A), some (.fz B), some (.fz X), v3, v4, v5]) : ∀ (xs : List (List Int)) (v3 v4 v5 : Option Val), (∀ x, x ∈ xs → x.length = w ∧ ∀ j, (fv x j).natAbs ≤ TB w) →
    loopW (.n 3) judB yesK K (xs.map rowD) [some (.fz A), some (.fz B), some (.fz X), v3, v4, v5]
  | [], v3, v4, v5, _ => ⟨True.intro, q _ _ _⟩
  | x :: xs, v3, v4, v5, hx => by
    obtain ⟨xl, xb⟩ := hx x List.mem_cons_self
    refine ⟨True.intro, _, rfl, ?_⟩
    show judB _ [some (.fz A), some (.fz B), some (.fz X), some (.fz (rowD x)), v4, v5]
    have go := fun v3 v4 v5 => lp_jud (X := X) hw hn hg hA hB q xs v3 v4 v5 fun y hy => hx y (List.mem_cons_of_mem _ hy)
    unfold judB
    have okr : (D.lst (rows.map rowD)).okE = true := okE_rows rows
    have l0 : EvR [some (.fz A), some (.fz B), some (.fz X), some (.fz (rowD x)), v4, v5] (wBlt gList (wCons (wVar 0) wNil)) (.ow (.lst (rows.map rowD))) [some (.fz A), some (.fz B), some (.fz X), some (.fz (rowD x)), v4, v5] := by
      subst hA
      exact ev_blt (evl_cons (vx 0 rfl) evl_nil) fun Q' q => q
    refine seq_k fun K1 hn1 _ _ _ _ => run_setO l0 (hn1 _ ?_)
    have f4 : Ev [some (.fz A), some (.fz B), some (.fz X), some (.fz (rowD x)), some (.ow (.lst (rows.map rowD))), v5] (wFrz (wVar 4)) (.lst (rows.map rowD)) [some (.fz A), some (.fz B), some (.fz X), some (.fz (rowD x)), some (.fz (.lst (rows.map rowD))), v5] := (ev_frzs (i := 4) (o := .lst (rows.map rowD)) rfl).fz
    refine seq_k fun K2 hn2 _ _ _ _ => run_set (ev_in_span f4 (fx 3 rfl) hw hn hg xl fun j => Nat.le_trans (xb j) (TB30 w)) (hn2 _ ?_)
    change wSeq _ _ _ [some (.fz A), some (.fz B), some (.fz X), some (.fz (rowD x)), some (.fz (.lst (rows.map rowD))), some (.fz (.bl (spB rows x)))]
    have v0 : ∀ {a b c d e : Option Val}, Ev [some (.fz A), a, b, c, d, e] (wVar 0) (.lst (rows.map rowD)) [some (.fz A), a, b, c, d, e] := fun {a b c d e} => by rw [hA]; exact vx 0 rfl
    refine sk_f (evt_B (k := false) (ev_op (vx (d := .lst (rows.map rowD)) 4 rfl) v0 fun Q' q => ⟨okr, okr, by
      show Q' (.fz (.bl (!eqvD (.lst (rows.map rowD)) (.lst (rows.map rowD)))))
      rw [eqv_rows, decide_eq_true rfl]; exact q⟩)) ?_
    have f1 : Ev [some (.fz A), some (.fz B), some (.fz X), some (.fz (rowD x)), some (.fz (.lst (rows.map rowD))), some (.fz (.bl (spB rows x)))] (wFrz (wVar 1)) (.lst ((echL rows []).map keD)) [some (.fz A), some (.fz B), some (.fz X), some (.fz (rowD x)), some (.fz (.lst (rows.map rowD))), some (.fz (.bl (spB rows x)))] := by rw [hB]; exact fx 1 rfl
    have sp := evt_trub (ev_kept f1 (fx 3 rfl) hw hg xl xb)
    cases hb : spB rows x with
    | true =>
      rw [hb] at sp
      refine sk_f (evt_and_t sp (evt_B (k := false) (ev_isnb (b := true) (k := true) (vx 5 rfl) cx))) ?_
      refine run_if_f (evt_and_f (evt_not (k := true) sp)) ?_
      exact go _ _ _
    | false =>
      rw [hb] at sp
      refine sk_f (evt_and_f sp) ?_
      refine run_if_f (evt_and_t (evt_not (k := false) sp) (evt_B (k := false) (ev_isnb (b := false) (k := false) (vx 5 rfl) cx))) ?_
      exact go _ _ _
theorem kp__law_judged : Keeps S__law_judged [] 3 6 (w__law_judged S_in_span S__law_spans) where
  fit := fun args Q E ⟨_, _, _, a, _⟩ => a ▸ fit3
  run := fun args Q E ⟨rows, xs, w, a, hw, hn, hg, hx, q⟩ => by
    subst a
    unfold w__law_judged
    obtain ⟨A, hA⟩ : ∃ A, D.lst (rows.map rowD) = A := ⟨_, rfl⟩
    obtain ⟨B, hB⟩ : ∃ B, D.lst ((echL rows []).map keD) = B := ⟨_, rfl⟩
    obtain ⟨X, hX⟩ : ∃ X, D.lst (xs.map rowD) = X := ⟨_, rfl⟩
    rw [hA, hB, hX] at q ⊢
    change wSeq _ _ _ [some (.fz A), some (.fz B), some (.fz X), none, none, none]
    refine seq_k fun K1 hn1 _ _ _ _ => run_forD (d := X) (xs := xs.map rowD) (ev_var rfl) (by rw [← hX]; rfl) (lp_jud hw hn hg hA hB (fun v3 v4 v5 => hn1 _ ?_) xs none none none hx)
    exact run_ret (d := .bl true) ev_c ⟨_, rfl, q⟩
end LV
namespace LV
open PySem PySem.Spec L2
theorem lc_runF {tg : Tg} {u : TW} {w : EW} {sl : List Nat} {k : Nat} {env : En} {Q : Rv → En → Prop} {E : XW} {xs : List D} (h : env[k]? = some (some (.fz (.lst xs)))) (q : compW tg u w sl yesK (fun acc e' => Q (.ow (.lst acc)) e') xs [] (wipeE env sl)) : wLc tg (wIt [] (wVar k)) u w sl env Q E := by
  unfold wLc wIt
  simp only [wVar, h]
  exact ⟨xs, rfl, q⟩
def ldF (p : Nat × List Int) : D := .tup [.int (p.1 : Int), rowD p.2]
theorem ldFP : PairF ldF := fun p => ⟨rowD p.2, rfl, sqT p.2⟩
theorem ldF_map (FP : List (List Int × Nat)) : (FP.map fun p => (p.2, p.1)).map ldF = FP.map ldD := by rw [List.map_map]; rfl
def S__law_back : FSpec := fun args Q _ => ∃ (rows sols told : List (List Int)) (w : Nat) (FP NP : List (List Int × Nat)), args = [.fz (.lst (rows.map rowD)), .fz (.lst ((echL rows []).map keD)), .fz (.lst (told.map rowD)), .fz (.int (w : Int))] ∧ 1 ≤ w ∧ w ≤ 17 ∧ rows.length ≤ 99 ∧ GoodS w rows ∧ FrmOf rows w FP ∧ (∀ p, p ∈ FP → ∀ j, (fv p.1 j).natAbs ≤ 2 ^ 376) ∧ NullOf rows sols w FP.length ∧ FrmOf sols w NP ∧ NP.length ≤ 17 ∧ NP.map (·.1) = told ∧ Q (.fz (.bl true)) args
theorem mS__law_back : MonoF S__law_back := ⟨fun h _ ⟨a, b, c, d, e, f, g, h1, h2, h3, h4, h5, h6, h7, h8, h9, h10, q⟩ => ⟨a, b, c, d, e, f, g, h1, h2, h3, h4, h5, h6, h7, h8, h9, h10, h _ _ q⟩⟩
abbrev E10b (A B T : D) (w : Nat) (v4 v5 v6 v7 v8 v9 : Option Val) : En := [some (.fz A), some (.fz B), some (.fz T), some (.fz (.int (w : Int))), v4, v5, v6, v7, v8, v9]
def bkB : SW := (wIf (wB (wOp2 gIsNotB (wCall S_in_span (wCons (wFrz (wBlt gList (wCons (wVar 0) wNil))) (wCons (wFrz (wVar 4)) wNil))) (wC (.bl false))))
  (wRet [] (wC (.bl false)))
  wSkip)
theorem lp_bk {rows : List (List Int)} {w : Nat} {A B T : D} {K : Ks} {v5 v6 v7 v8 v9 : Option Val} (hw : w ≤ 17) (hn : rows.length ≤ 99) (hg : GoodS w rows) (hA : D.lst (rows.map rowD) = A) (q : ∀ v4, K.nx (E10b A B T w v4 v5 v6 v7 v8 v9)) : ∀ (xs : List (List Int)) (v4 : Option Val), (∀ x, x ∈ xs → x.length = w ∧ (∀ j, (fv x j).natAbs ≤ 10 ^ 30) ∧ spB rows x = false) →
    loopW (.n 4) bkB yesK K (xs.map rowD) (E10b A B T w v4 v5 v6 v7 v8 v9)
  | [], v4, _ => ⟨True.intro, q _⟩
  | x :: xs, v4, hx => by
    obtain ⟨xl, xb, xf⟩ := hx x List.mem_cons_self
    refine ⟨True.intro, _, rfl, ?_⟩
    show bkB _ (E10b A B T w (some (.fz (rowD x))) v5 v6 v7 v8 v9)
    unfold bkB
    have l0 : EvR (E10b A B T w (some (.fz (rowD x))) v5 v6 v7 v8 v9) (wBlt gList (wCons (wVar 0) wNil)) (.ow (.lst (rows.map rowD))) (E10b A B T w (some (.fz (rowD x))) v5 v6 v7 v8 v9) := by
      subst hA
      exact ev_blt (evl_cons (vx 0 rfl) evl_nil) fun Q' q => q
    have sp := ev_in_span (ev_frz l0.ow).fz (fx (d := rowD x) 4 rfl) hw hn hg xl xb
    rw [xf] at sp
    refine run_if_f (evt_B (k := false) (ev_isnb (b := false) (k := false) sp.fz cx)) ?_
    exact lp_bk hw hn hg hA q xs _ fun y hy => hx y (List.mem_cons_of_mem _ hy)
theorem fit4d {pn : List Nat} {d d' d'' d3 : D} : ArgsFit pn 4 [.fz d, .fz d', .fz d'', .fz d3] := ⟨rfl, fun j o h => by rcases j with _ | _ | _ | _ | j <;> simp at h, fun j a C ks vs h => by rcases j with _ | _ | _ | _ | j <;> simp at h⟩
theorem kp__law_back : Keeps S__law_back [] 4 10 (w__law_back S_null_space S__law_is_form S__law_lead S__law_spans S_in_span) where
  fit := fun args Q E ⟨_, _, _, _, _, _, a, _⟩ => a ▸ fit4d
  run := fun args Q E ⟨rows, sols, told, w, FP, NP, a, w1, w17, hn, hg, hF, fb, hN, hNP, npl, et, q⟩ => by
    subst a
    unfold w__law_back
    have sz := sizeLine_eq
    have rl : ∀ r, r ∈ rows → r.length = w := fun r hr => (hg r hr).1
    have tl : ∀ r, r ∈ told → r.length = w := fun r hr => by
      rw [← et] at hr
      obtain ⟨p, hp, rfl⟩ := List.mem_map.mp hr
      exact hNP.len p hp
    have tn : told.length ≤ 17 := by rw [← et, List.length_map]; exact npl
    have fpw : FP.length + NP.length = w := by have := hN.rank NP hNP; omega
    obtain ⟨A, hA⟩ : ∃ A, D.lst (rows.map rowD) = A := ⟨_, rfl⟩
    obtain ⟨B, hB⟩ : ∃ B, D.lst ((echL rows []).map keD) = B := ⟨_, rfl⟩
    obtain ⟨T, hT⟩ : ∃ T, D.lst (told.map rowD) = T := ⟨_, rfl⟩
    rw [hA, hB, hT] at q ⊢
    change wSeq _ _ _ (E10b A B T w none none none none none none)
    obtain ⟨ab, hab⟩ : ∃ ab : List Int → List Int, ab = fun r => r.map fun x => ((x.natAbs : Nat) : Int) := ⟨_, rfl⟩
    have abn : ∀ r, r ∈ told → ab r ≠ [] := fun r hr z => by
      have := tl r hr
      rw [hab] at z
      have z' : r = [] := List.map_eq_nil_iff.mp z
      rw [z'] at this
      simp at this
      omega
    have lc : EvR (E10b A B T w none none none none none none) (wLc (.n 4) (wIt [] (wVar 2)) uYes (wBlt gMaxL (wCons (wLc (.n 5) (wIt [] (wVar 4)) uYes (wBlt gAbs (wCons (wVar 5) wNil)) [5]) wNil)) [4]) (.ow (.lst ((told.map fun r => mxOf (ab r)).map D.int))) (E10b A B T w none none none none none none) := by
      have := lc_mapL (env := E10b A B T w none none none none none none) (e1 := E10b A B T w none none none none none none) (i := 4) (pn := []) (wa := wVar 2) (d := T) (w := wBlt gMaxL (wCons (wLc (.n 5) (wIt [] (wVar 4)) uYes (wBlt gAbs (wCons (wVar 5) wNil)) [5]) wNil)) (g := rowD) (f := fun r => D.int (mxOf (ab r))) (xs := told) (ev_var rfl) (by rw [← hT]; rfl) (fun r hr => by
        have lr := lc_mapL (env := E10b A B T w (some (.fz (rowD r))) none none none none none) (e1 := E10b A B T w (some (.fz (rowD r))) none none none none none) (i := 5) (pn := []) (wa := wVar 4) (d := rowD r) (w := wBlt gAbs (wCons (wVar 5) wNil)) (g := D.int) (f := fun x : Int => D.int ((x.natAbs : Nat) : Int)) (xs := r) (ev_var rfl) rfl (fun x _ => (ev_abs (vx 5 rfl)).fz) (by rw [tl r hr]; omega)
        have e : (r.map fun x : Int => D.int ((x.natAbs : Nat) : Int)) = (ab r).map D.int := by rw [hab, List.map_map]; rfl
        rw [e] at lr
        exact (ev_maxL lr.ow (mxOf_mem (abn r hr)) (mxOf_ge (abn r hr))).fz) (by omega)
      rw [show (told.map fun r => D.int (mxOf (ab r))) = (told.map fun r => mxOf (ab r)).map D.int by rw [List.map_map]; rfl] at this
      exact this
    obtain ⟨ml, hml⟩ : ∃ ml : List Int, [0] ++ (told.map fun r => mxOf (ab r)) = ml := ⟨_, rfl⟩
    have mne : ml ≠ [] := by rw [← hml]; exact List.cons_ne_nil _ _
    have mx : EvR (E10b A B T w none none none none none none) (wBlt gMaxL (wCons (wOp2 gAdd (wLst (wCons (wC (.int 0)) wNil)) (wLc (.n 4) (wIt [] (wVar 2)) uYes (wBlt gMaxL (wCons (wLc (.n 5) (wIt [] (wVar 4)) uYes (wBlt gAbs (wCons (wVar 5) wNil)) [5]) wNil)) [4])) wNil)) (.fz (.int (mxOf ml))) (E10b A B T w none none none none none none) := by
      have ad := evR_add (ev_l1 (cx (env := E10b A B T w none none none none none none) (d := .int 0))).ow lc.ow (by rw [List.length_map, List.length_map]; show 1 + _ ≤ 1000; omega)
      rw [show [D.int 0] ++ (told.map fun r => mxOf (ab r)).map D.int = ml.map D.int by rw [← hml, List.map_append]; rfl] at ad
      exact ev_maxL ad.ow (mxOf_mem mne) (mxOf_ge mne)
    have pw : Ev (E10b A B T w none none none none none none) (wOp2 gPow (wC (.int 10)) (wC (.int 30))) (.int (10 ^ 30)) (E10b A B T w none none none none none none) := (ev_op cx cx fun Q' q => by
      rw [gPow_ii]; exact ⟨⟨by decide, by decide, by decide⟩, q⟩).fz
    by_cases big : (10 : Int) ^ 30 ≤ mxOf ml
    · refine sk_t (evt_B (k := true) (ev_gei mx.fz pw (decide_eq_true big))) fun K' hr _ => run_ret (d := .bl true) ev_c ?_
      rw [hr]
      exact ⟨_, rfl, q⟩
    refine sk_f (evt_B (k := false) (ev_gei mx.fz pw (decide_eq_false big))) ?_
    have small : ∀ r, r ∈ told → ∀ j, (fv r j).natAbs ≤ 10 ^ 30 := fun r hr j => by
      by_cases z : j < r.length
      · have h1 : ((fv r j).natAbs : Int) ≤ mxOf (ab r) := mxOf_ge (abn _ hr) _ (by rw [hab]; exact List.mem_map.mpr ⟨_, fv_in z, rfl⟩)
        have h2 : mxOf (ab r) ≤ mxOf ml := mxOf_ge mne _ (by rw [← hml]; exact List.mem_append.mpr (.inr (List.mem_map.mpr ⟨r, hr, rfl⟩)))
        omega
      · rw [fv_out (by omega)]; exact Nat.zero_le _
    have smallP : ∀ p, p ∈ NP → ∀ j, (fv p.1 j).natAbs ≤ 10 ^ 30 := fun p hp => small p.1 (by rw [← et]; exact List.mem_map.mpr ⟨p, hp, rfl⟩)
    obtain ⟨rs, _⟩ := red_self hNP (by decide) smallP
    rw [et] at rs
    -- passed, answer
    have l2 : EvR (E10b A B T w none none none none none none) (wBlt gList (wCons (wVar 2) wNil)) (.ow (.lst (told.map rowD))) (E10b A B T w none none none none none none) := by
      subst hT
      exact ev_blt (evl_cons (vx 2 rfl) evl_nil) fun Q' q => q
    refine seq_k fun K1 hn1 _ _ _ _ => run_setO l2 (hn1 _ ?_)
    change wSeq _ _ _ (E10b A B T w none none (some (.ow (.lst (told.map rowD)))) none none none)
    have f6 : Ev (E10b A B T w none none (some (.ow (.lst (told.map rowD)))) none none none) (wFrz (wVar 6)) (.lst (told.map rowD)) (E10b A B T w none none (some (.fz (.lst (told.map rowD)))) none none none) := (ev_frzs (i := 6) (o := .lst (told.map rowD)) rfl).fz
    have ns := ev_call (S := S_null_space) (ds := [.lst (told.map rowD), .int (w : Int)]) (r := .ow (.lst (FP.map fun p => rowD p.1))) (evl_cons f6 (evl_cons (fx 3 rfl) evl_nil)) (fun q' => ⟨told, w, rfl, w17, by omega, fun r hr => ⟨tl r hr, small r hr⟩, fun r hr j => by
      rw [rs] at hr
      exact Nat.le_trans (small r hr j) (Nat.le_trans (show (10 : Nat) ^ 30 ≤ 2 ^ 100 by decide) (Nat.pow_le_pow_right (by decide) (by decide))), fun FP' sols' NP' f1 f2 f3 f4 f5 => by
      have e1 : FP' = NP := by
        have sf := hNP.self
        rw [et] at sf
        exact f1.uniq sf (fun r hr => .gen ⟨r, hr, rfl⟩) fun r hr => .gen ⟨r, hr, rfl⟩
      rw [e1] at f2
      rw [nul_two hF hN hNP rl et f2 f3]
      exact q'⟩) fun i z => by cases z
    refine seq_k fun K2 hn2 _ _ _ _ => run_setO ns (hn2 _ ?_)
    obtain ⟨TL, hTL⟩ : ∃ TL, (FP.map fun p => rowD p.1) = TL := ⟨_, rfl⟩
    have tll : TL.length = FP.length := by rw [← hTL, List.length_map]
    rw [hTL]
    change wSeq _ _ _ (E10b A B T w none none (some (.fz (.lst (told.map rowD)))) (some (.ow (.lst TL))) none none)
    have isf : EvR (E10b A B T w none none (some (.fz (.lst (told.map rowD)))) (some (.ow (.lst TL))) none none) (wCall S__law_is_form (wCons (wVar 7) (wCons (wFrz (wVar 3)) wNil))) (.fz (.bl true)) (E10b A B T w none none (some (.fz (.lst (told.map rowD)))) (some (.ow (.lst TL))) none none) :=
      ev_callO (i := 7) (o := .lst TL) (S := S__law_is_form) (ds := [.int (w : Int)]) (lst_nn _) rfl (evl_cons (fx 3 rfl) evl_nil) (fun q => ⟨FP, w, by rw [hTL]; rfl, hF.frm, fun p hp => ⟨hF.len p hp, hF.lt p hp⟩, by omega, by omega, q⟩) fun i z => by cases z
    have elen := ech_len rl (ech_facts w17 hg).1 hF
    have ln7 : EvR (E10b A B T w none none (some (.fz (.lst (told.map rowD)))) (some (.ow (.lst TL))) none none) (wBlt gLen (wCons (wVar 7) wNil)) (.fz (.int (FP.length : Int))) (E10b A B T w none none (some (.fz (.lst (told.map rowD)))) (some (.ow (.lst TL))) none none) := by
      rw [← tll]
      exact ev_lenW rfl
    have ln1 : EvR (E10b A B T w none none (some (.fz (.lst (told.map rowD)))) (some (.ow (.lst TL))) none none) (wBlt gLen (wCons (wVar 1) wNil)) (.fz (.int (FP.length : Int))) (E10b A B T w none none (some (.fz (.lst (told.map rowD)))) (some (.ow (.lst TL))) none none) := by
      have := ev_lenl (env := E10b A B T w none none (some (.fz (.lst (told.map rowD)))) (some (.ow (.lst TL))) none none) (w := wVar 1) (ds := (echL rows []).map keD) (by rw [hB]; exact vx 1 rfl)
      rw [List.length_map, elen.1] at this
      exact this
    have okt : (D.lst (told.map rowD)).okE = true := okE_rows told
    have v2 : Ev (E10b A B T w none none (some (.fz (.lst (told.map rowD)))) (some (.ow (.lst TL))) none none) (wVar 2) (.lst (told.map rowD)) (E10b A B T w none none (some (.fz (.lst (told.map rowD)))) (some (.ow (.lst TL))) none none) := by rw [hT]; exact vx 2 rfl
    refine sk_f (evt_or_f (evt_not (k := true) (evt_trub isf)) (evt_or_f (evt_B (k := false) (ev_nei ln7.fz ln1.fz)) (evt_B (k := false) (ev_op (vx (d := .lst (told.map rowD)) 6 rfl) v2 fun Q' q => ⟨okt, okt, by
      show Q' (.fz (.bl (!eqvD (.lst (told.map rowD)) (.lst (told.map rowD)))))
      rw [eqv_rows, decide_eq_true rfl]; exact q⟩)))) ?_
    -- leads
    obtain ⟨v6, hv6⟩ : ∃ v6, (some (.fz (.lst (told.map rowD))) : Option Val) = v6 := ⟨_, rfl⟩
    rw [hv6]
    have lds : EvR (E10b A B T w none none v6 (some (.ow (.lst TL))) none none) (wLc (.n 9) (wIt [] (wVar 7)) uYes (wTup (wCons (wCall S__law_lead (wCons (wFrz (wVar 9)) wNil)) (wCons (wVar 9) wNil))) [9]) (.ow (.lst (FP.map ldD))) (E10b A B T w none none v6 (some (.fz (.lst TL))) none none) := by
      subst hTL
      exact lc_mapS (k := 7) (i := 9) (g := fun p : List Int × Nat => rowD p.1) (f := ldD) (xs := FP) rfl (fun p hp => by
        have eI : leadI p.1 = (p.2 : Int) := by
          have el : leadL p.1 = p.2 := leadL_eq (hF.frm.red.ne _ (mem_prF hp)) (hF.frm.low _ (mem_prF hp))
          unfold leadI
          rw [el, if_pos (by rw [hF.len p hp]; exact hF.lt p hp)]
        have := ev_lead (env := E10b A B T w none none v6 (some (.fz (.lst (FP.map fun p => rowD p.1)))) none (some (.fz (rowD p.1)))) (fx 9 rfl) (sqT p.1) (by rw [hF.len p hp]; omega)
        rw [eI] at this
        exact (ev_tup (ds := [.int (p.2 : Int), rowD p.1]) (evl_cons this.fz (evl_cons (vx 9 rfl) evl_nil)) (by show 2 ≤ _; omega)).fz) (by omega)
    refine seq_k fun K3 hn3 _ _ _ _ => run_setO lds (hn3 _ ?_)
    obtain ⟨LD, hLD⟩ : ∃ LD, FP.map ldD = LD := ⟨_, rfl⟩
    rw [hLD]
    obtain ⟨v7, hv7⟩ : ∃ v7, (some (.fz (.lst TL)) : Option Val) = v7 := ⟨_, rfl⟩
    rw [hv7]
    change wSeq _ _ _ (E10b A B T w none none v6 v7 (some (.ow (.lst LD))) none)
    refine seq_k fun K4 hn4 _ _ _ _ => run_all (H := fun v => v = some (.fz (.lst LD)) ∨ v = some (.ow (.lst LD))) (envo := fun v => E10b A B T w none none v6 v7 v none) (bs := rows.map fun _ => true) (fun {Q' E'} q' => ?_) (by rw [List.all_map]; exact List.all_eq_true.mpr fun _ _ => rfl) fun v8 hv8 => hn4 _ ?_
    · refine lc_runF (k := 0) (xs := rows.map rowD) (by subst hA; rfl) ?_
      refine cw_held (g := rowD) (f := fun _ => D.bl true) (i := 4) (envf := fun v4 v8 => E10b A B T w v4 none v6 v7 v8 none) (H := fun v => v = some (.fz (.lst LD)) ∨ v = some (.ow (.lst LD))) (fun _ _ _ => rfl) rows [] (some (.ow (.lst LD))) (fun r hr v hv => ⟨some (.fz (.lst LD)), .inl rfl, ?_⟩) (.inr rfl) (by rw [List.length_nil]; omega) fun v hv => ?_
      · have f8 : Ev (E10b A B T w (some (.fz (rowD r))) none v6 v7 v none) (wFrz (wVar 8)) (.lst LD) (E10b A B T w (some (.fz (rowD r))) none v6 v7 (some (.fz (.lst LD))) none) := by
          rcases hv with rfl | rfl
          · exact fx 8 rfl
          · exact (ev_frzs (i := 8) (o := .lst LD) rfl).fz
        have zero := spanL_zero hF (rl r hr) (.gen ⟨r, hr, rfl⟩)
        have lneg : decide (leadI (spanL (FP.map fun p => (p.2, p.1)) r) < 0) = true := decide_eq_true (leadI_neg.mpr zero)
        exact (ev_call (S := S__law_spans) (ds := [.lst LD, rowD r]) (evl_cons f8 (evl_cons (fx 4 rfl) evl_nil)) (fun q => ⟨ldF, FP.map fun p => (p.2, p.1), r, w, by rw [ldF_map, hLD]; rfl, ldFP, rl r hr, by omega, fun p hp => by
          obtain ⟨a, ha, rfl⟩ := List.mem_map.mp hp
          exact ⟨hF.len a ha, hF.lt a ha, fun j => Nat.lt_of_le_of_lt (fb a ha j) (Nat.pow_lt_pow_right (by decide) (by decide))⟩, span_small (w := w) (K := FP.map fun p => (p.2, p.1)) (fun p hp => by
          obtain ⟨a, ha, rfl⟩ := List.mem_map.mp hp
          exact ⟨hF.len a ha, fb a ha⟩) (rl r hr) (by rw [List.length_map]; omega) (fun j => Nat.lt_of_le_of_lt ((hg r hr).2 j) (eB_lt w)), by rw [lneg]; exact q⟩) fun i z => by cases z).fz
      · have := q' v hv
        rw [List.map_map] at this
        exact this
    -- none of the told rows lies in the span
    clear hv8
    have sl : EvR (E10b A B T w none none v6 v7 v8 none) (wSl (wVar 2) wNoP (wPt (wC (.int 4)))) (.ow (.lst ((told.take 4).map rowD))) (E10b A B T w none none v6 v7 v8 none) := by
      have := ev_slLR (env := E10b A B T w none none v6 v7 v8 none) (w := wVar 2) (wa := wC (.int 4)) (ds := told.map rowD) (i := ((4 : Nat) : Int)) (by rw [hT]; exact vx 2 rfl) ev_c
      rw [cut_take, ← List.map_take] at this
      exact this
    refine seq_k fun K5 hn5 _ _ _ _ => run_forO sl (lp_bk w17 hn hg hA (fun v4 => hn5 _ ?_) (told.take 4) none fun x hx => ?_)
    · exact run_ret (d := .bl true) ev_c ⟨_, rfl, q⟩
    · have hx := List.mem_of_mem_take hx
      refine ⟨tl x hx, small x hx, ?_⟩
      cases hb : spB rows x with
      | false => rfl
      | true =>
        exfalso
        rw [← et] at hx
        obtain ⟨p, hp, rfl⟩ := List.mem_map.mp hx
        have nul : Nul w (RW rows) (fv p.1) := (hN.sp _).mp (hNP.of _ ⟨_, mem_prF hp, rfl⟩)
        exact hNP.frm.red.ne _ (mem_prF hp) (not_both nul (spB_iff.mp hb) p.2)
end LV
namespace LV
open PySem PySem.Spec L2
theorem ev_repR {env e1 : En} {wn : EW} {w : Nat} {x : Int} (h : Ev env wn (.int (w : Int)) e1) (hw : w ≤ 900) : EvR env (wBlt gTuple (wCons (wOp2 gMulT (wLst (wCons (wC (.int x)) wNil)) wn) wNil)) (.fz (rowD (List.replicate w x))) e1 := by
  have m : EvR env (wOp2 gMulT (wLst (wCons (wC (.int x)) wNil)) wn) (.ow (.lst ((List.replicate w x).map D.int))) e1 := ev_op (ev_l1 cx).ow h fun Q' q => .inr (by
    have sz := sizeLine_eq
    show gMul (.lst [.int x]) (.int (w : Int)) Q'
    rw [gMul_li, Int.toNat_natCast]
    refine ⟨by omega, by omega, by show 1 * w ≤ _; omega, ?_⟩
    have e : (List.replicate w [D.int x]).flatten = (List.replicate w x).map D.int := by
      rw [fl_one, List.map_replicate]
    rw [e]
    exact q)
  exact ev_tuple m.ow
theorem ev_null {env e1 e2 : En} {wa wb : EW} {rows : List (List Int)} {w : Nat} (ha : Ev env wa (.lst (rows.map rowD)) e1) (hb : Ev e1 wb (.int (w : Int)) e2) (hw : w ≤ 17) (hn : rows.length ≤ 99) (hr : ∀ r, r ∈ rows → r.length = w ∧ ∀ j, (fv r j).natAbs ≤ 10 ^ 30) (hf : ∀ r, r ∈ redL rows w → ∀ j, (fv r j).natAbs ≤ 2 ^ 376) {Q : Rv → En → Prop} {E : XW}
    (q : ∀ FP sols NP, FrmOf rows w FP → NullOf rows sols w FP.length → FrmOf sols w NP → NP.length ≤ 17 → (∀ p, p ∈ NP → ∀ j, (fv p.1 j).natAbs ≤ 2 ^ 1800) → Q (.ow (.lst (NP.map fun p => rowD p.1))) e2) : wCall S_null_space (wCons wa (wCons wb wNil)) env Q E :=
  call_both (ds := [.lst (rows.map rowD), .int (w : Int)]) mS_null_space (evl_cons ha (evl_cons hb evl_nil)) ⟨rows, w, rfl, hw, by omega, hr, hf, fun FP sols NP h1 h2 h3 h4 h5 => ⟨rfl, (fun _ z => nomatch z), q FP sols NP h1 h2 h3 h4 h5⟩⟩
theorem tried_arg {env : En} {rows : List (List Int)} {w : Nat} {w0 w1 w2 : EW} (h0 : ∀ {Q : Rv → En → Prop} {E : XW}, (∀ o, BagOk o 0 → Q (.ow o) env) → w0 env Q E) (h1 : Ev env w1 (.lst (rows.map rowD)) env) (h2 : Ev env w2 (.int (w : Int)) env) (w1' : 1 ≤ w) (w17 : w ≤ 17) (hn : rows.length ≤ 99) (hg : GoodS w rows) {Q : Rv → En → Prop} {E : XW}
    (q : ∀ xs : List (List Int), (∀ x, x ∈ xs → x.length = w ∧ ∀ j, (fv x j).natAbs ≤ TB w) → Q (.fz (.lst (xs.map rowD))) env) : wFrz (wCallT S__law_tried w0 (wCons w1 (wCons w2 wNil))) env Q E := by
  unfold wFrz wFz
  exact callT_ff mS__law_tried (PO := fun o => BagOk o 0) (fun o b => bag_nn b) h0 h1 h2 fun o1 bg => ⟨o1, 0, w, rows, rfl, bg, by decide, w1', w17, by omega, hg, fun xs o' hx _ => ⟨o', rfl, (fun _ z => nomatch z), _, env, rfl, q xs hx⟩⟩
theorem jud_if {env e1 : En} {wa wb wc : EW} {d1 d2 : D} {PD : D → Prop} {S : FSpec} {s t : SW} {K : Ks} (ha : Ev env wa d1 env) (hb : Ev env wb d2 e1) (hc : ∀ {Q : Rv → En → Prop} {E : XW}, (∀ d, PD d → Q (.fz d) e1) → wc e1 Q E) (hS : ∀ d, PD d → ∀ {Q' : Rv → List Val → Prop} {E' : Xn → List Val → Prop}, Q' (.fz (.bl true)) [.fz d1, .fz d2, .fz d] → S [.fz d1, .fz d2, .fz d] Q' E') (q : t K e1) : wIf (wtNot (wTru (wCall S (wCons wa (wCons wb (wCons wc wNil)))))) s t K env := by
  unfold wIf wtNot wTru wFz wCall
  refine ha.go (Q := fun r e => wFz wb e (fun r2 e2 => wFz wc e2 (fun r3 e3 => _) _) _) (hb.go (Q := fun r2 e2 => wFz wc e2 (fun r3 e3 => _) _) ?_)
  unfold wFz
  refine hc fun d pd => ⟨[.fz d1, .fz d2, .fz d], rfl, List.nodup_nil, hS d pd ⟨rfl, (fun _ z => nomatch z), .bl true, true, rfl, rfl, ?_⟩⟩
  exact q
abbrev E10l (N : D) (v1 v2 v3 v4 v5 v6 v7 v8 v9 : Option Val) : En := [some (.fz N), v1, v2, v3, v4, v5, v6, v7, v8, v9]
def prB : SW := (wIf (wtNot (wTru (wBlt gAll (wCons (wLc (.n 9) (wIt [] (wVar 6)) uYes (wOp2 gEq (wCall S__law_product (wCons (wFrz (wVar 9)) (wCons (wFrz (wVar 8)) wNil))) (wC (.int 0))) [9]) wNil))))
  (wRet [] (wC (.bl false)))
  wSkip)
theorem lp_pr {N : D} {w : Nat} {TL : List D} {NP : List (List Int × Nat)} {K : Ks} {v1 v2 v3 v4 v5 v7 : Option Val} (hw : w ≤ 17) (hT : (NP.map fun p => rowD p.1) = TL) (npl : NP.length ≤ 17) (hl : ∀ p, p ∈ NP → p.1.length = w ∧ ∀ j, (fv p.1 j).natAbs ≤ 2 ^ 1800) (q : ∀ v6 v8, (v6 = some (.fz (.lst TL)) ∨ v6 = some (.ow (.lst TL))) → K.nx (E10l N v1 v2 v3 v4 v5 v6 v7 v8 none)) : ∀ (l : List (List Int)) (v6 v8 : Option Val), (v6 = some (.fz (.lst TL)) ∨ v6 = some (.ow (.lst TL))) → (∀ r, r ∈ l → r.length = w ∧ (∀ j, (fv r j).natAbs ≤ eB w) ∧ ∀ p, p ∈ NP → dotW w (fv p.1) (fv r) = 0) →
    loopW (.n 8) prB yesK K (l.map rowD) (E10l N v1 v2 v3 v4 v5 v6 v7 v8 none)
  | [], v6, v8, h6, _ => ⟨True.intro, q _ _ h6⟩
  | r :: l, v6, v8, h6, hr => by
    obtain ⟨rl, rb, rz⟩ := hr r List.mem_cons_self
    refine ⟨True.intro, _, rfl, ?_⟩
    show prB _ (E10l N v1 v2 v3 v4 v5 v6 v7 (some (.fz (rowD r))) none)
    have item : ∀ p, p ∈ NP → Ev (E10l N v1 v2 v3 v4 v5 (some (.fz (.lst TL))) v7 (some (.fz (rowD r))) (some (.fz (rowD p.1)))) (wOp2 gEq (wCall S__law_product (wCons (wFrz (wVar 9)) (wCons (wFrz (wVar 8)) wNil))) (wC (.int 0))) (.bl true) (E10l N v1 v2 v3 v4 v5 (some (.fz (.lst TL))) v7 (some (.fz (rowD r))) (some (.fz (rowD p.1)))) := fun p hp => by
      have c := ev_call (env := E10l N v1 v2 v3 v4 v5 (some (.fz (.lst TL))) v7 (some (.fz (rowD r))) (some (.fz (rowD p.1)))) (S := S__law_product) (ds := [rowD p.1, rowD r]) (r := .fz (.int 0)) (evl_cons (wl := wCons (wFrz (wVar 8)) wNil) (w := wFrz (wVar 9)) (fx 9 rfl) (evl_cons (fx 8 rfl) evl_nil)) (fun q => ⟨p.1, r, rfl, by rw [(hl p hp).1, rl], by rw [(hl p hp).1]; omega, fun j => Nat.lt_of_le_of_lt ((hl p hp).2 j) (Nat.pow_lt_pow_right (by decide) (by decide)), eB8000 (n := 1) (by omega) (fun j => by rw [Nat.one_mul]; exact rb j), by rw [(hl p hp).1, rz p hp]; exact q⟩) fun i z => by cases z
      exact (ev_eqi' (k := true) c.fz cx rfl).fz
    have lc : EvR (E10l N v1 v2 v3 v4 v5 v6 v7 (some (.fz (rowD r))) none) (wLc (.n 9) (wIt [] (wVar 6)) uYes (wOp2 gEq (wCall S__law_product (wCons (wFrz (wVar 9)) (wCons (wFrz (wVar 8)) wNil))) (wC (.int 0))) [9]) (.ow (.lst (NP.map fun _ => D.bl true))) (E10l N v1 v2 v3 v4 v5 (some (.fz (.lst TL))) v7 (some (.fz (rowD r))) none) := by
      subst hT
      rcases h6 with rfl | rfl
      · exact lc_mapL (e1 := E10l N v1 v2 v3 v4 v5 (some (.fz (.lst (NP.map fun p : List Int × Nat => rowD p.1)))) v7 (some (.fz (rowD r))) none) (i := 9) (pn := []) (wa := wVar 6) (d := .lst (NP.map fun p : List Int × Nat => rowD p.1)) (g := fun p : List Int × Nat => rowD p.1) (f := fun _ => D.bl true) (xs := NP) (ev_var rfl) rfl (fun p hp => item p hp) (by omega)
      · exact lc_mapS (k := 6) (i := 9) (g := fun p : List Int × Nat => rowD p.1) (f := fun _ => D.bl true) (xs := NP) rfl (fun p hp => item p hp) (by omega)
    unfold prB
    refine run_all (H := fun _ => True) (envo := fun _ => E10l N v1 v2 v3 v4 v5 (some (.fz (.lst TL))) v7 (some (.fz (rowD r))) none) (bs := NP.map fun _ => true) (fun {Q' E'} q' => ?_) (by rw [List.all_map]; exact List.all_eq_true.mpr fun _ _ => rfl) fun _ _ => ?_
    · have := q' none trivial
      rw [List.map_map] at this
      exact lc.go this
    · exact lp_pr hw hT npl hl q l _ _ (.inl rfl) fun a ha => hr a (List.mem_cons_of_mem _ ha)
abbrev S_law : FSpec := SLaw 63
theorem kp_law : Keeps S_law [] 1 10 (w_law S__law_bag S__law_width S__law_rows S_null_space S__law_is_form S__law_echelon S__law_product S__law_tried S__law_judged S__law_back) where
  fit := fun args Q E ⟨_, a, _⟩ => a ▸ fit1
  run := fun args Q E ⟨ns, a, hl, hz, q⟩ => by
    subst a
    unfold w_law
    have sz := sizeLine_eq
    change wSeq _ _ _ (E10l (.scr ns) none none none none none none none none none)
    -- bag, width, rows
    refine seq_k fun K1 hn1 _ _ _ _ => ?_
    unfold wSet
    refine ev_bag (k := 0) (fx 0 rfl) cx (by decide) hz fun o bg0 => hn1 _ ?_
    have bg : BagOk o ((0 : Nat) : Int) := bg0
    change wSeq _ _ _ (E10l (.scr ns) (some (.ow o)) none none none none none none none none)
    refine seq_k fun K2 hn2 _ _ _ _ => ?_
    unfold wSet
    refine call_bag (i := 1) (o := o) (ds := []) mS__law_width (bag_nn bg) rfl evl_nil rfl ⟨o, 0, rfl, bg, by decide, fun w o1 w1 w17 bg1 => ⟨o1, rfl, (fun _ z => nomatch z), hn2 _ ?_⟩⟩
    change wSeq _ _ _ (E10l (.scr ns) (some (.ow o1)) (some (.fz (.int (w : Int)))) none none none none none none none)
    refine seq_k fun K3 hn3 _ _ _ _ => ?_
    unfold wSet
    refine call_fof (j := 1) (o := o1) mS__law_rows (bag_nn bg1) (fx 0 rfl) rfl (fx 2 rfl) ⟨ns, o1, 2, w, rfl, hz, hl, bg1, by decide, w1, w17, fun rows o2 hg0 hrl bg2 => ⟨o2, rfl, (fun _ z => nomatch z), hn3 _ ?_⟩⟩
    have hg : GoodS w rows := good_all hg0
    have rl : ∀ r, r ∈ rows → r.length = w := fun r hr => (hg r hr).1
    obtain ⟨hb1, _⟩ := hb_rows (rows := rows) (w := w) (eB_pos w) fun r hr => (hg r hr).2
    have hb := hb1.up (num1 w (by omega))
    obtain ⟨FP0, rd, hF0, _, fb0⟩ := red_res rl hb
    have okr : (D.lst (rows.map rowD)).okE = true := okE_rows rows
    change wSeq _ _ _ (E10l (.scr ns) (some (.ow o2)) (some (.fz (.int (w : Int)))) (some (.ow (.lst (rows.map rowD)))) none none none none none none)
    -- passed, answer
    refine seq_k fun K4 hn4 _ _ _ _ => run_setO (ev_bltS (i := 3) (o := .lst (rows.map rowD)) (r := .ow (.lst (rows.map rowD))) rfl fun Q' q => q) (hn4 _ ?_)
    have f4 : Ev (E10l (.scr ns) (some (.ow o2)) (some (.fz (.int (w : Int)))) (some (.ow (.lst (rows.map rowD)))) (some (.ow (.lst (rows.map rowD)))) none none none none none) (wFrz (wVar 4)) (.lst (rows.map rowD)) (E10l (.scr ns) (some (.ow o2)) (some (.fz (.int (w : Int)))) (some (.ow (.lst (rows.map rowD)))) (some (.fz (.lst (rows.map rowD)))) none none none none none) := (ev_frzs (i := 4) (o := .lst (rows.map rowD)) rfl).fz
    refine seq_k fun K5 hn5 _ _ _ _ => ?_
    unfold wSet
    refine ev_null f4 (fx 2 rfl) w17 (by omega) (fun r hr => ⟨rl r hr, fun j => Nat.le_trans ((hg r hr).2 j) (eB30 w)⟩) (fun r hr j => by
      rw [rd] at hr
      obtain ⟨p, hp, rfl⟩ := List.mem_map.mp hr
      exact fb0 p hp j) fun FP sols NP hF hN hNP npl nb => hn5 _ ?_
    have eF : FP = FP0 := hF.uniq hF0 (fun r hr => .gen ⟨r, hr, rfl⟩) fun r hr => .gen ⟨r, hr, rfl⟩
    have fb : ∀ p, p ∈ FP → ∀ j, (fv p.1 j).natAbs ≤ 2 ^ 376 := by rw [eF]; exact fb0
    have rank := hN.rank NP hNP
    obtain ⟨TL, hTL⟩ : ∃ TL, (NP.map fun p => rowD p.1) = TL := ⟨_, rfl⟩
    have tll : TL.length = NP.length := by rw [← hTL, List.length_map]
    rw [hTL]
    change wSeq _ _ _ (E10l (.scr ns) (some (.ow o2)) (some (.fz (.int (w : Int)))) (some (.ow (.lst (rows.map rowD)))) (some (.fz (.lst (rows.map rowD)))) (some (.ow (.lst TL))) none none none none)
    refine sk_f (evt_not (k := true) (evt_trub (ev_callO (i := 5) (o := .lst TL) (S := S__law_is_form) (ds := [.int (w : Int)]) (lst_nn _) rfl (evl_cons (fx 2 rfl) evl_nil) (fun q => ⟨NP, w, by rw [hTL]; rfl, hNP.frm, fun p hp => ⟨hNP.len p hp, hNP.lt p hp⟩, by omega, by omega, q⟩) fun i z => by cases z))) ?_
    change wSeq _ _ _ (E10l (.scr ns) (some (.ow o2)) (some (.fz (.int (w : Int)))) (some (.ow (.lst (rows.map rowD)))) (some (.fz (.lst (rows.map rowD)))) (some (.ow (.lst TL))) none none none none)
    -- told
    refine seq_k fun K6 hn6 _ _ _ _ => run_setO (ev_bltS (i := 5) (o := .lst TL) (r := .ow (.lst TL)) rfl fun Q' q => q) (hn6 _ ?_)
    refine seq_k fun K7 hn7 _ _ _ _ => app_d (ds := TL) (ev_repR (x := 1) (vx 2 rfl) (by omega)).fz rfl (by omega) (hn7 _ ?_)
    obtain ⟨v5, hv5⟩ : ∃ v5, (some (.ow (.lst (TL ++ [rowD (List.replicate w 1)]))) : Option Val) = v5 := ⟨_, rfl⟩
    rw [hv5]
    change wSeq _ _ _ (E10l (.scr ns) (some (.ow o2)) (some (.fz (.int (w : Int)))) (some (.ow (.lst (rows.map rowD)))) (some (.fz (.lst (rows.map rowD)))) v5 (some (.ow (.lst TL))) none none none)
    refine sk_f (evt_B (k := false) (ev_opT (o := .lst (rows.map rowD)) (r := .fz (.bl false)) (vx 4 rfl) rfl fun Q' q => ⟨okr, okr, by
      show Q' (.fz (.bl (!eqvD (.lst (rows.map rowD)) (.lst (rows.map rowD)))))
      rw [eqv_rows, decide_eq_true rfl]; exact q⟩)) ?_
    -- kept
    have f3 : Ev (E10l (.scr ns) (some (.ow o2)) (some (.fz (.int (w : Int)))) (some (.ow (.lst (rows.map rowD)))) (some (.fz (.lst (rows.map rowD)))) v5 (some (.ow (.lst TL))) none none none) (wFrz (wVar 3)) (.lst (rows.map rowD)) (E10l (.scr ns) (some (.ow o2)) (some (.fz (.int (w : Int)))) (some (.fz (.lst (rows.map rowD)))) (some (.fz (.lst (rows.map rowD)))) v5 (some (.ow (.lst TL))) none none none) := (ev_frzs (i := 3) (o := .lst (rows.map rowD)) rfl).fz
    refine seq_k fun K8 hn8 _ _ _ _ => run_setO (ev_call (S := S__law_echelon) (ds := [.lst (rows.map rowD)]) (r := .ow (.lst ((echL rows []).map keD))) (evl_cons f3 evl_nil) (fun q => ⟨rows, w, rfl, by omega, ech_ok hg0 w17, q⟩) fun i z => by cases z) (hn8 _ ?_)
    have elen := ech_len rl (ech_facts w17 hg).1 hF
    obtain ⟨KD, hKD⟩ : ∃ KD, (echL rows []).map keD = KD := ⟨_, rfl⟩
    have kdl : KD.length = FP.length := by rw [← hKD, List.length_map]; exact elen.1
    rw [hKD]
    obtain ⟨A, hA⟩ : ∃ A, D.lst (rows.map rowD) = A := ⟨_, rfl⟩
    rw [hA]
    change wSeq _ _ _ (E10l (.scr ns) (some (.ow o2)) (some (.fz (.int (w : Int)))) (some (.fz A)) (some (.fz A)) v5 (some (.ow (.lst TL))) (some (.ow (.lst KD))) none none)
    have lenE : EvR (E10l (.scr ns) (some (.ow o2)) (some (.fz (.int (w : Int)))) (some (.fz A)) (some (.fz A)) v5 (some (.ow (.lst TL))) (some (.ow (.lst KD))) none none) (wOp2 gAdd (wBlt gLen (wCons (wVar 6) wNil)) (wBlt gLen (wCons (wVar 7) wNil))) (.fz (.int (w : Int))) (E10l (.scr ns) (some (.ow o2)) (some (.fz (.int (w : Int)))) (some (.fz A)) (some (.fz A)) v5 (some (.ow (.lst TL))) (some (.ow (.lst KD))) none none) := by
      have := ev_addi (ev_lenW (env := E10l (.scr ns) (some (.ow o2)) (some (.fz (.int (w : Int)))) (some (.fz A)) (some (.fz A)) v5 (some (.ow (.lst TL))) (some (.ow (.lst KD))) none none) (i := 6) (ds := TL) rfl).fz (ev_lenW (i := 7) (ds := KD) rfl).fz
      rw [tll, kdl, show ((NP.length : Nat) : Int) + ((FP.length : Nat) : Int) = (w : Int) by omega] at this
      exact this
    refine sk_f (evt_B (ev_nei lenE.fz (vx (d := .int (w : Int)) 2 rfl))) ?_
    -- products
    refine seq_k fun K9 hn9 _ _ _ _ => run_forD (d := A) (xs := rows.map rowD) (ev_var rfl) (by rw [← hA]; rfl) (lp_pr w17 hTL npl (fun p hp => ⟨hNP.len p hp, nb p hp⟩) (fun v6 v8 h6 => hn9 _ ?_) rows _ none (.inr rfl) fun r hr => ⟨rl r hr, (hg r hr).2, fun p hp => ?_⟩)
    rotate_left
    · rw [dot_comm]
      exact ((hN.sp _).mp (hNP.of _ ⟨_, mem_prF hp, rfl⟩)).2 _ ⟨r, hr, rfl⟩
    -- judged
    have f7 : Ev (E10l (.scr ns) (some (.ow o2)) (some (.fz (.int (w : Int)))) (some (.fz A)) (some (.fz A)) v5 v6 (some (.ow (.lst KD))) v8 none) (wFrz (wVar 7)) (.lst KD) (E10l (.scr ns) (some (.ow o2)) (some (.fz (.int (w : Int)))) (some (.fz A)) (some (.fz A)) v5 v6 (some (.fz (.lst KD))) v8 none) := (ev_frzs (i := 7) (o := .lst KD) rfl).fz
    refine seq_k fun K10 hn10 _ _ _ _ => jud_if (PD := fun d => ∃ xs : List (List Int), d = .lst (xs.map rowD) ∧ ∀ x, x ∈ xs → x.length = w ∧ ∀ j, (fv x j).natAbs ≤ TB w) (d1 := A) (d2 := .lst KD) (fx 3 rfl) f7 (fun {Q' E'} q' => tried_arg (rows := rows) (w := w) (fun q => ev_bag (k := 1) (fx 0 rfl) cx (by decide) hz q) (by rw [hA]; exact fx 3 rfl) (fx 2 rfl) w1 w17 (by omega) hg fun xs hx => q' _ ⟨xs, rfl, hx⟩) (fun d ⟨xs, e, hx⟩ {Q' E'} q' => ?_) (hn10 _ ?_)
    · subst e
      subst hA hKD
      exact ⟨rows, xs, w, rfl, w17, by omega, hg, hx, q'⟩
    -- back
    have f6 : Ev (E10l (.scr ns) (some (.ow o2)) (some (.fz (.int (w : Int)))) (some (.fz A)) (some (.fz A)) v5 v6 (some (.fz (.lst KD))) v8 none) (wFrz (wVar 6)) (.lst TL) (E10l (.scr ns) (some (.ow o2)) (some (.fz (.int (w : Int)))) (some (.fz A)) (some (.fz A)) v5 (some (.fz (.lst TL))) (some (.fz (.lst KD))) v8 none) := by
      rcases h6 with rfl | rfl
      · exact fx 6 rfl
      · exact (ev_frzs (i := 6) (o := .lst TL) rfl).fz
    refine run_ret (ev_call (S := S__law_back) (ds := [A, .lst KD, .lst TL, .int (w : Int)]) (r := .fz (.bl true)) (evl_cons (fx 3 rfl) (evl_cons (fx 7 rfl) (evl_cons f6 (evl_cons (fx 2 rfl) evl_nil)))) (fun q' => ?_) fun i z => by cases z) ⟨_, rfl, q _ rfl⟩
    have hT2 : (NP.map (·.1)).map rowD = TL := by rw [map_fst]; exact hTL
    rw [← hT2, ← hA, ← hKD] at q' ⊢
    exact ⟨rows, sols, NP.map (·.1), w, FP, NP, rfl, w1, w17, by omega, hg, hF, fb, hN, hNP, npl, rfl, q'⟩
end LV
set_option maxHeartbeats 2000000
namespace LV
open PySem PySem.Spec L2
def topS (i : Nat) : Stmt := PySem.Challenge.pw_lampthrong_k31_whole_null_space.main.body.getD i (.Pass ⟨0, 0, 0, 0⟩)
abbrev s_common_divisor : Stmt := topS 1
theorem sc_common_divisor : FnScope ["one", "other"] ["one", "other"] (defScope s_common_divisor) := ⟨rfl, rfl, rfl, by decide +kernel, rfl, by decide +kernel, by decide +kernel⟩
abbrev s_lead_position : Stmt := topS 3
theorem sc_lead_position : FnScope ["row", "position", "entry"] ["row"] (defScope s_lead_position) := ⟨rfl, rfl, rfl, by decide +kernel, rfl, by decide +kernel, by decide +kernel⟩
abbrev s_index_with : Stmt := topS 6
theorem sc_index_with : FnScope ["rows", "position", "index", "row"] ["rows", "position"] (defScope s_index_with) := ⟨rfl, rfl, rfl, by decide +kernel, rfl, by decide +kernel, by decide +kernel⟩
abbrev s__law_bag : Stmt := topS 11
theorem sc__law_bag : FnScope ["_law_script", "_law_k", "_law_cell", "_law_great"] ["_law_script", "_law_k"] (defScope s__law_bag) := ⟨rfl, rfl, rfl, by decide +kernel, rfl, by decide +kernel, by decide +kernel⟩
abbrev s__law_take : Stmt := topS 12
theorem sc__law_take : FnScope ["_law_bag_here", "_law_size", "_law_digit", "_law_once", "_law_twice"] ["_law_bag_here", "_law_size"] (defScope s__law_take) := ⟨rfl, rfl, rfl, by decide +kernel, rfl, by decide +kernel, by decide +kernel⟩
abbrev s__law_is_integer : Stmt := topS 13
theorem sc__law_is_integer : FnScope ["_law_value"] ["_law_value"] (defScope s__law_is_integer) := ⟨rfl, rfl, rfl, by decide +kernel, rfl, by decide +kernel, by decide +kernel⟩
abbrev s__law_divisor : Stmt := topS 14
theorem sc__law_divisor : FnScope ["_law_row_here", "_law_found", "_law_entry", "_law_rest", "_law_last"] ["_law_row_here"] (defScope s__law_divisor) := ⟨rfl, rfl, rfl, by decide +kernel, rfl, by decide +kernel, by decide +kernel⟩
abbrev s__law_lead : Stmt := topS 16
theorem sc__law_lead : FnScope ["_law_row_here", "_law_place"] ["_law_row_here"] (defScope s__law_lead) := ⟨rfl, rfl, rfl, by decide +kernel, rfl, by decide +kernel, by decide +kernel⟩
abbrev s__law_sum : Stmt := topS 22
theorem sc__law_sum : FnScope ["_law_one", "_law_factor", "_law_other", "_law_second", "_law_k"] ["_law_one", "_law_factor", "_law_other", "_law_second"] (defScope s__law_sum) := ⟨rfl, rfl, rfl, by decide +kernel, rfl, by decide +kernel, by decide +kernel⟩
abbrev s__law_product : Stmt := topS 26
theorem sc__law_product : FnScope ["_law_one", "_law_other", "_law_k"] ["_law_one", "_law_other"] (defScope s__law_product) := ⟨rfl, rfl, rfl, by decide +kernel, rfl, by decide +kernel, by decide +kernel⟩
abbrev s_common_multiple : Stmt := topS 2
theorem sc_common_multiple : FnScope ["numbers", "multiple", "number"] ["numbers"] (defScope s_common_multiple) := ⟨rfl, rfl, rfl, by decide +kernel, rfl, by decide +kernel, by decide +kernel⟩
abbrev s_simplified : Stmt := topS 4
theorem sc_simplified : FnScope ["row", "divisor", "entry"] ["row"] (defScope s_simplified) := ⟨rfl, rfl, rfl, by decide +kernel, rfl, by decide +kernel, by decide +kernel⟩
abbrev s__law_primitive : Stmt := topS 15
theorem sc__law_primitive : FnScope ["_law_row_here", "_law_divisor_here", "_law_entry"] ["_law_row_here"] (defScope s__law_primitive) := ⟨rfl, rfl, rfl, by decide +kernel, rfl, by decide +kernel, by decide +kernel⟩
abbrev s__law_is_row : Stmt := topS 20
theorem sc__law_is_row : FnScope ["_law_row_here", "_law_width_here", "_law_entry"] ["_law_row_here", "_law_width_here"] (defScope s__law_is_row) := ⟨rfl, rfl, rfl, by decide +kernel, rfl, by decide +kernel, by decide +kernel⟩
abbrev s__law_row : Stmt := topS 23
theorem sc__law_row : FnScope ["_law_bag_here", "_law_width_here", "_law_rows_here", "_law_way", "_law_one", "_law_factor", "_law_other", "_law_span", "_law_row_here", "_law_k", "_law_entry"] ["_law_bag_here", "_law_width_here", "_law_rows_here"] (defScope s__law_row) := ⟨rfl, rfl, rfl, by decide +kernel, rfl, by decide +kernel, by decide +kernel⟩
abbrev s__law_width : Stmt := topS 25
theorem sc__law_width : FnScope ["_law_bag_here", "_law_width_here"] ["_law_bag_here"] (defScope s__law_width) := ⟨rfl, rfl, rfl, by decide +kernel, rfl, by decide +kernel, by decide +kernel⟩
abbrev s_cleared : Stmt := topS 5
theorem sc_cleared : FnScope ["row", "pivot", "position", "up", "down", "entry", "other"] ["row", "pivot", "position"] (defScope s_cleared) := ⟨rfl, rfl, rfl, by decide +kernel, rfl, by decide +kernel, by decide +kernel⟩
abbrev s__law_cleared : Stmt := topS 17
theorem sc__law_cleared : FnScope ["_law_row_here", "_law_place", "_law_other", "_law_factor", "_law_lead_here", "_law_k"] ["_law_row_here", "_law_place", "_law_other"] (defScope s__law_cleared) := ⟨rfl, rfl, rfl, by decide +kernel, rfl, by decide +kernel, by decide +kernel⟩
abbrev s__law_is_form : Stmt := topS 21
theorem sc__law_is_form : FnScope ["_law_told", "_law_width_here", "_law_row_here", "_law_last", "_law_place", "_law_other"] ["_law_told", "_law_width_here"] (defScope s__law_is_form) := ⟨rfl, rfl, rfl, by decide +kernel, rfl, by decide +kernel, by decide +kernel⟩
abbrev s__law_rows : Stmt := topS 24
theorem sc__law_rows : FnScope ["_law_script", "_law_bag_here", "_law_width_here", "_law_rows_here", "_law_k"] ["_law_script", "_law_bag_here", "_law_width_here"] (defScope s__law_rows) := ⟨rfl, rfl, rfl, by decide +kernel, rfl, by decide +kernel, by decide +kernel⟩
abbrev s__law_tried : Stmt := topS 27
theorem sc__law_tried : FnScope ["_law_bag_here", "_law_rows_here", "_law_width_here", "_law_blend", "_law_k", "_law_one", "_law_place", "_law_bumped", "_law_loose"] ["_law_bag_here", "_law_rows_here", "_law_width_here"] (defScope s__law_tried) := ⟨rfl, rfl, rfl, by decide +kernel, rfl, by decide +kernel, by decide +kernel⟩
abbrev s_reduced : Stmt := topS 7
theorem sc_reduced : FnScope ["rows", "width", "left", "row", "forms", "position", "index", "pivot", "others"] ["rows", "width"] (defScope s_reduced) := ⟨rfl, rfl, rfl, by decide +kernel, rfl, by decide +kernel, by decide +kernel⟩
abbrev s__law_echelon : Stmt := topS 18
theorem sc__law_echelon : FnScope ["_law_rows_here", "_law_kept", "_law_row_here", "_law_rest", "_law_one"] ["_law_rows_here"] (defScope s__law_echelon) := ⟨rfl, rfl, rfl, by decide +kernel, rfl, by decide +kernel, by decide +kernel⟩
abbrev s__law_spans : Stmt := topS 19
theorem sc__law_spans : FnScope ["_law_kept", "_law_row_here", "_law_rest", "_law_one"] ["_law_kept", "_law_row_here"] (defScope s__law_spans) := ⟨rfl, rfl, rfl, by decide +kernel, rfl, by decide +kernel, by decide +kernel⟩
abbrev s_null_space : Stmt := topS 8
theorem sc_null_space : FnScope ["rows", "width", "forms", "leads", "form", "scale", "lead", "solutions", "position", "solution"] ["rows", "width"] (defScope s_null_space) := ⟨rfl, rfl, rfl, by decide +kernel, rfl, by decide +kernel, by decide +kernel⟩
abbrev s_in_span : Stmt := topS 9
theorem sc_in_span : FnScope ["rows", "row", "width"] ["rows", "row"] (defScope s_in_span) := ⟨rfl, rfl, rfl, by decide +kernel, rfl, by decide +kernel, by decide +kernel⟩
abbrev s__law_judged : Stmt := topS 28
theorem sc__law_judged : FnScope ["_law_rows_here", "_law_kept", "_law_tried_here", "_law_row_here", "_law_passed", "_law_answer"] ["_law_rows_here", "_law_kept", "_law_tried_here"] (defScope s__law_judged) := ⟨rfl, rfl, rfl, by decide +kernel, rfl, by decide +kernel, by decide +kernel⟩
abbrev s__law_back : Stmt := topS 29
theorem sc__law_back : FnScope ["_law_rows_here", "_law_kept", "_law_told", "_law_width_here", "_law_row_here", "_law_entry", "_law_passed", "_law_answer", "_law_leads", "_law_one"] ["_law_rows_here", "_law_kept", "_law_told", "_law_width_here"] (defScope s__law_back) := ⟨rfl, rfl, rfl, by decide +kernel, rfl, by decide +kernel, by decide +kernel⟩
abbrev s_law : Stmt := topS 30
theorem sc_law : FnScope ["_law_script", "_law_bag_here", "_law_width_here", "_law_rows_here", "_law_passed", "_law_answer", "_law_told", "_law_kept", "_law_row_here", "_law_one"] ["_law_script"] (defScope s_law) := ⟨rfl, rfl, rfl, by decide +kernel, rfl, by decide +kernel, by decide +kernel⟩
/-- what the module holds when the law is called -/
structure Tp (P : Program) (w : World) (K : PySem.W.Frag) (mg : Str → Option Value) (base : Heap) : Prop where
  d_common_divisor : ∃ f fd, DefAt K mg "common_divisor" s_common_divisor ["one", "other"] f fd
  d_lead_position : ∃ f fd, DefAt K mg "lead_position" s_lead_position ["row"] f fd
  d_index_with : ∃ f fd, DefAt K mg "index_with" s_index_with ["rows", "position"] f fd
  d__law_bag : ∃ f fd, DefAt K mg "_law_bag" s__law_bag ["_law_script", "_law_k"] f fd
  d__law_take : ∃ f fd, DefAt K mg "_law_take" s__law_take ["_law_bag_here", "_law_size"] f fd
  d__law_is_integer : ∃ f fd, DefAt K mg "_law_is_integer" s__law_is_integer ["_law_value"] f fd
  d__law_divisor : ∃ f fd, DefAt K mg "_law_divisor" s__law_divisor ["_law_row_here"] f fd
  d__law_lead : ∃ f fd, DefAt K mg "_law_lead" s__law_lead ["_law_row_here"] f fd
  d__law_sum : ∃ f fd, DefAt K mg "_law_sum" s__law_sum ["_law_one", "_law_factor", "_law_other", "_law_second"] f fd
  d__law_product : ∃ f fd, DefAt K mg "_law_product" s__law_product ["_law_one", "_law_other"] f fd
  d_common_multiple : ∃ f fd, DefAt K mg "common_multiple" s_common_multiple ["numbers"] f fd
  d_simplified : ∃ f fd, DefAt K mg "simplified" s_simplified ["row"] f fd
  d__law_primitive : ∃ f fd, DefAt K mg "_law_primitive" s__law_primitive ["_law_row_here"] f fd
  d__law_is_row : ∃ f fd, DefAt K mg "_law_is_row" s__law_is_row ["_law_row_here", "_law_width_here"] f fd
  d__law_row : ∃ f fd, DefAt K mg "_law_row" s__law_row ["_law_bag_here", "_law_width_here", "_law_rows_here"] f fd
  d__law_width : ∃ f fd, DefAt K mg "_law_width" s__law_width ["_law_bag_here"] f fd
  d_cleared : ∃ f fd, DefAt K mg "cleared" s_cleared ["row", "pivot", "position"] f fd
  d__law_cleared : ∃ f fd, DefAt K mg "_law_cleared" s__law_cleared ["_law_row_here", "_law_place", "_law_other"] f fd
  d__law_is_form : ∃ f fd, DefAt K mg "_law_is_form" s__law_is_form ["_law_told", "_law_width_here"] f fd
  d__law_rows : ∃ f fd, DefAt K mg "_law_rows" s__law_rows ["_law_script", "_law_bag_here", "_law_width_here"] f fd
  d__law_tried : ∃ f fd, DefAt K mg "_law_tried" s__law_tried ["_law_bag_here", "_law_rows_here", "_law_width_here"] f fd
  d_reduced : ∃ f fd, DefAt K mg "reduced" s_reduced ["rows", "width"] f fd
  d__law_echelon : ∃ f fd, DefAt K mg "_law_echelon" s__law_echelon ["_law_rows_here"] f fd
  d__law_spans : ∃ f fd, DefAt K mg "_law_spans" s__law_spans ["_law_kept", "_law_row_here"] f fd
  d_null_space : ∃ f fd, DefAt K mg "null_space" s_null_space ["rows", "width"] f fd
  d_in_span : ∃ f fd, DefAt K mg "in_span" s_in_span ["rows", "row"] f fd
  d__law_judged : ∃ f fd, DefAt K mg "_law_judged" s__law_judged ["_law_rows_here", "_law_kept", "_law_tried_here"] f fd
  d__law_back : ∃ f fd, DefAt K mg "_law_back" s__law_back ["_law_rows_here", "_law_kept", "_law_told", "_law_width_here"] f fd
  d_law : ∃ f fd, DefAt K mg "law" s_law ["_law_script"] f fd
  z_abs : mg "abs" = none
  z_all : mg "all" = none
  z_bool : mg "bool" = none
  z_enumerate : mg "enumerate" = none
  z_int : mg "int" = none
  z_isinstance : mg "isinstance" = none
  z_len : mg "len" = none
  z_list : mg "list" = none
  z_max : mg "max" = none
  z_min : mg "min" = none
  z_range : mg "range" = none
  z_sum : mg "sum" = none
  z_tuple : mg "tuple" = none
  z_zip : mg "zip" = none
theorem der_common_divisor {P : Program} {w : World} {K : PySem.W.Frag} {mg : Str → Option Value} {base : Heap} (T : Tp P w K mg base) {f : Addr} (cdv : Value) (A : Around) (outer : List Env) (s : Shared) (H : Hp) (E : XK) (hr : RoomG 0 (A.deeper (PyProof.Rows.envOfC "common_divisor" (defScope s_common_divisor) s.heap.objs.size f cdv)))
    (σ₀ : L2.St) (h₀ : Hp) (xc : Addr → Value → Option Addr → Prop) (hN : Hp) : SSs (cxOf (L2.CX P w) P w K mg base ["one", "other"] "common_divisor" (defScope s_common_divisor) f cdv A outer s H E) ⟨[], σ₀, h₀, xc, hN⟩ (fun cls d _ H => E cls d H) (defBody s_common_divisor) (w_common_divisor) :=
  (sss_cons (ss_while poF (st_cmp (vr_ne hr.u64) (se_var (i := 1)) se_int (by with_unfolding_all rfl))
  (sss_one (ss_par (i := 0) (j := 1) (show 0 ∉ ([] : List Nat) from by decide) (show 1 ∉ ([] : List Nat) from by decide) rfl sc_common_divisor.nd rfl rfl (by decide) rfl rfl (sa_cons (se_var (i := 1)) (sa_cons (se_op vr_mod (se_var (i := 0)) (se_var (i := 1))) sa_nil)))))
  (sss_one (ss_ret (se_callB vl_abs (by rfl) T.z_abs (by with_unfolding_all rfl) (sa_cons (se_var (i := 0)) sa_nil)))))
theorem der_lead_position {P : Program} {w : World} {K : PySem.W.Frag} {mg : Str → Option Value} {base : Heap} (T : Tp P w K mg base) {f : Addr} (cdv : Value) (A : Around) (outer : List Env) (s : Shared) (H : Hp) (E : XK) (hr : RoomG 0 (A.deeper (PyProof.Rows.envOfC "lead_position" (defScope s_lead_position) s.heap.objs.size f cdv)))
    (σ₀ : L2.St) (h₀ : Hp) (xc : Addr → Value → Option Addr → Prop) (hN : Hp) : SSs (cxOf (L2.CX P w) P w K mg base ["row", "position", "entry"] "lead_position" (defScope s_lead_position) f cdv A outer s H E) ⟨[], σ₀, h₀, xc, hN⟩ (fun cls d _ H => E cls d H) (defBody s_lead_position) (w_lead_position) :=
  (sss_cons (ss_for poF rfl (si_enumA (by rfl) T.z_enumerate (sa_cons (se_var (i := 0)) sa_nil)) (sg_tup (is := [1, 2]) rfl (pgs_cons (pg_name (i := 1) sc_lead_position.nd rfl (by first | exact .inl rfl | exact .inr rfl)) (pgs_cons (pg_name (i := 2) sc_lead_position.nd rfl (by first | exact .inl rfl | exact .inr rfl)) pgs_nil))) (show ∀ i ∈ ([1, 2] : List Nat), i ∉ ([] : List Nat) from by decide)
  (sss_one (ss_if (st_cmp (vr_ne hr.u64) (se_var (i := 2)) se_int (by with_unfolding_all rfl))
  (sss_one (ss_ret (se_var (i := 1))))
  sss_nil)))
  (sss_one (ss_ret (se_callB vl_len (by rfl) T.z_len (by with_unfolding_all rfl) (sa_cons (se_var (i := 0)) sa_nil)))))
theorem der_index_with {P : Program} {w : World} {K : PySem.W.Frag} {mg : Str → Option Value} {base : Heap} (T : Tp P w K mg base) {f : Addr} (cdv : Value) (A : Around) (outer : List Env) (s : Shared) (H : Hp) (E : XK) (hr : RoomG 0 (A.deeper (PyProof.Rows.envOfC "index_with" (defScope s_index_with) s.heap.objs.size f cdv)))
    (σ₀ : L2.St) (h₀ : Hp) (xc : Addr → Value → Option Addr → Prop) (hN : Hp) : SSs (cxOf (L2.CX P w) P w K mg base ["rows", "position", "index", "row"] "index_with" (defScope s_index_with) f cdv A outer s H E) ⟨[], σ₀, h₀, xc, hN⟩ (fun cls d _ H => E cls d H) (defBody s_index_with) (w_index_with) :=
  (sss_cons (ss_for poF rfl (si_enumA (by rfl) T.z_enumerate (sa_cons (se_var (i := 0)) sa_nil)) (sg_tup (is := [2, 3]) rfl (pgs_cons (pg_name (i := 2) sc_index_with.nd rfl (by first | exact .inl rfl | exact .inr rfl)) (pgs_cons (pg_name (i := 3) sc_index_with.nd rfl (by first | exact .inl rfl | exact .inr rfl)) pgs_nil))) (show ∀ i ∈ ([2, 3] : List Nat), i ∉ ([] : List Nat) from by decide)
  (sss_one (ss_if (st_cmp (vr_ne hr.u64) (se_ix vi_ix (se_var (i := 3)) (se_var (i := 1))) se_int (by with_unfolding_all rfl))
  (sss_one (ss_ret (se_var (i := 2))))
  sss_nil)))
  (sss_one (ss_ret se_non)))
theorem der__law_bag {P : Program} {w : World} {K : PySem.W.Frag} {mg : Str → Option Value} {base : Heap} (T : Tp P w K mg base) {f : Addr} (cdv : Value) (A : Around) (outer : List Env) (s : Shared) (H : Hp) (E : XK) (hr : RoomG 0 (A.deeper (PyProof.Rows.envOfC "_law_bag" (defScope s__law_bag) s.heap.objs.size f cdv)))
    (σ₀ : L2.St) (h₀ : Hp) (xc : Addr → Value → Option Addr → Prop) (hN : Hp) : SSs (cxOf (L2.CX P w) P w K mg base ["_law_script", "_law_k", "_law_cell", "_law_great"] "_law_bag" (defScope s__law_bag) f cdv A outer s H E) ⟨[], σ₀, h₀, xc, hN⟩ (fun cls d _ H => E cls d H) (defBody s__law_bag) (w__law_bag) :=
  (sss_cons (ss_if (st_not (st_tru (se_var (i := 0))))
  (sss_one (ss_ret (se_lst (sa_cons se_int (sa_cons (se_neg se_int) (sa_cons (se_op vr_mulT se_int (se_var (i := 1))) sa_nil))))))
  sss_nil)
  (sss_cons (ss_set (i := 2) (show 2 ∉ ([] : List Nat) from by decide) sc__law_bag.nd rfl (by first | exact .inl rfl | exact .inr rfl) (se_op vr_add (se_op vr_mulT (se_ix vi_ix (se_var (i := 0)) se_int) se_int) (se_op vr_mulT se_int (se_var (i := 1)))))
  (sss_cons (ss_if (st_cmp (vr_lt hr.u0) (se_var (i := 1)) (se_callB vl_len (by rfl) T.z_len (by with_unfolding_all rfl) (sa_cons (se_var (i := 0)) sa_nil)) (by with_unfolding_all rfl))
  (sss_one (ss_set (i := 2) (show 2 ∉ ([] : List Nat) from by decide) sc__law_bag.nd rfl (by first | exact .inl rfl | exact .inr rfl) (se_ix vi_ix (se_var (i := 0)) (se_var (i := 1)))))
  sss_nil)
  (sss_cons (ss_if (st_cmp (vr_lt hr.u0) (se_var (i := 2)) se_int (by with_unfolding_all rfl))
  (sss_one (ss_set (i := 2) (show 2 ∉ ([] : List Nat) from by decide) sc__law_bag.nd rfl (by first | exact .inl rfl | exact .inr rfl) (se_op vr_sub se_int (se_var (i := 2)))))
  sss_nil)
  (sss_cons (ss_set (i := 3) (show 3 ∉ ([] : List Nat) from by decide) sc__law_bag.nd rfl (by first | exact .inl rfl | exact .inr rfl) se_int)
  (sss_cons (ss_if (st_cmp (vr_ge hr.u0) (se_var (i := 2)) (se_op vr_pow se_int se_int) (by with_unfolding_all rfl))
  (sss_one (ss_set (i := 3) (show 3 ∉ ([] : List Nat) from by decide) sc__law_bag.nd rfl (by first | exact .inl rfl | exact .inr rfl) (se_var (i := 2))))
  sss_nil)
  (sss_one (ss_ret (se_lst (sa_cons (se_var (i := 3)) (sa_cons (se_op vr_mod (se_callTy vl_int (by rfl) T.z_int (by with_unfolding_all rfl) (sa_cons (se_var (i := 2)) sa_nil)) se_int) (sa_cons (se_op vr_mulT se_int (se_var (i := 1))) sa_nil))))))))))))
theorem der__law_take {P : Program} {w : World} {K : PySem.W.Frag} {mg : Str → Option Value} {base : Heap} (T : Tp P w K mg base) {f : Addr} (cdv : Value) (A : Around) (outer : List Env) (s : Shared) (H : Hp) (E : XK) (hr : RoomG 0 (A.deeper (PyProof.Rows.envOfC "_law_take" (defScope s__law_take) s.heap.objs.size f cdv)))
    (σ₀ : L2.St) (h₀ : Hp) (xc : Addr → Value → Option Addr → Prop) (hN : Hp) : SSs (cxOf (L2.CX P w) P w K mg base ["_law_bag_here", "_law_size", "_law_digit", "_law_once", "_law_twice"] "_law_take" (defScope s__law_take) f cdv A outer s H E) ⟨[0], σ₀, h₀, xc, hN⟩ (fun cls d _ H => E cls d H) (defBody s__law_take) (w__law_take) :=
  (sss_cons (ss_if (st_cmp (vr_gt hr.u0) (se_ix vi_ix (se_var (i := 0)) se_int) se_int (by with_unfolding_all rfl))
  (sss_cons (ss_set (i := 2) (show 2 ∉ ([0] : List Nat) from by decide) sc__law_take.nd rfl (by first | exact .inl rfl | exact .inr rfl) (se_op vr_mod (se_callTy vl_int (by rfl) T.z_int (by with_unfolding_all rfl) (sa_cons (se_ix vi_ix (se_var (i := 0)) se_int) sa_nil)) (se_var (i := 1))))
  (sss_cons (ss_setIx (i := 0) (se_op vr_div (se_ix vi_ix (se_var (i := 0)) se_int) (se_var (i := 1))) se_int)
  (sss_one (ss_ret (se_var (i := 2))))))
  sss_nil)
  (sss_cons (ss_setIx (i := 0) (se_op vr_add (se_ix vi_ix (se_var (i := 0)) se_int) se_int) se_int)
  (sss_cons (ss_if (st_cmp (vr_lt hr.u0) (se_ix vi_ix (se_var (i := 0)) se_int) se_int (by with_unfolding_all rfl))
  (sss_one (ss_ret (se_op vr_mod (se_callTy vl_int (by rfl) T.z_int (by with_unfolding_all rfl) (sa_cons (se_ix vi_ix (se_var (i := 0)) se_int) sa_nil)) (se_var (i := 1)))))
  sss_nil)
  (sss_cons (ss_set (i := 3) (show 3 ∉ ([0] : List Nat) from by decide) sc__law_take.nd rfl (by first | exact .inl rfl | exact .inr rfl) (se_op vr_mod (se_callTy vl_int (by rfl) T.z_int (by with_unfolding_all rfl) (sa_cons (se_op vr_add (se_op vr_add (se_op vr_mulT (se_ix vi_ix (se_var (i := 0)) se_int) se_int) (se_op vr_mulT (se_ix vi_ix (se_var (i := 0)) se_int) se_int)) se_int) sa_nil)) se_int))
  (sss_cons (ss_set (i := 4) (show 4 ∉ ([0] : List Nat) from by decide) sc__law_take.nd rfl (by first | exact .inl rfl | exact .inr rfl) (se_op vr_mod (se_callTy vl_int (by rfl) T.z_int (by with_unfolding_all rfl) (sa_cons (se_op vr_add (se_op vr_mulT (se_var (i := 3)) (se_op vr_add (se_op vr_div (se_var (i := 3)) se_int) se_int)) (se_op vr_mulT (se_ix vi_ix (se_var (i := 0)) se_int) se_int)) sa_nil)) se_int))
  (sss_one (ss_ret (se_op vr_mod (se_callTy vl_int (by rfl) T.z_int (by with_unfolding_all rfl) (sa_cons (se_op vr_div (se_var (i := 4)) se_int) sa_nil)) (se_var (i := 1))))))))))
theorem der__law_is_integer {P : Program} {w : World} {K : PySem.W.Frag} {mg : Str → Option Value} {base : Heap} (T : Tp P w K mg base) {f : Addr} (cdv : Value) (A : Around) (outer : List Env) (s : Shared) (H : Hp) (E : XK) (hr : RoomG 0 (A.deeper (PyProof.Rows.envOfC "_law_is_integer" (defScope s__law_is_integer) s.heap.objs.size f cdv)))
    (σ₀ : L2.St) (h₀ : Hp) (xc : Addr → Value → Option Addr → Prop) (hN : Hp) : SSs (cxOf (L2.CX P w) P w K mg base ["_law_value"] "_law_is_integer" (defScope s__law_is_integer) f cdv A outer s H E) ⟨[], σ₀, h₀, xc, hN⟩ (fun cls d _ H => E cls d H) (defBody s__law_is_integer) (w__law_is_integer) :=
  (sss_one (ss_ret (se_and (se_isi (T := .int) (se_var (i := 0)) (by rfl) T.z_isinstance (by rfl) T.z_int (by with_unfolding_all rfl)) (se_one (se_not (se_isi (T := .bl) (se_var (i := 0)) (by rfl) T.z_isinstance (by rfl) T.z_bool (by with_unfolding_all rfl)))))))
theorem der__law_divisor {P : Program} {w : World} {K : PySem.W.Frag} {mg : Str → Option Value} {base : Heap} (T : Tp P w K mg base) {f : Addr} (cdv : Value) (A : Around) (outer : List Env) (s : Shared) (H : Hp) (E : XK) (hr : RoomG 0 (A.deeper (PyProof.Rows.envOfC "_law_divisor" (defScope s__law_divisor) s.heap.objs.size f cdv)))
    (σ₀ : L2.St) (h₀ : Hp) (xc : Addr → Value → Option Addr → Prop) (hN : Hp) : SSs (cxOf (L2.CX P w) P w K mg base ["_law_row_here", "_law_found", "_law_entry", "_law_rest", "_law_last"] "_law_divisor" (defScope s__law_divisor) f cdv A outer s H E) ⟨[], σ₀, h₀, xc, hN⟩ (fun cls d _ H => E cls d H) (defBody s__law_divisor) (w__law_divisor) :=
  (sss_cons (ss_set (i := 1) (show 1 ∉ ([] : List Nat) from by decide) sc__law_divisor.nd rfl (by first | exact .inl rfl | exact .inr rfl) se_int)
  (sss_cons (ss_for poF rfl (si_it (se_var (i := 0))) (sg_name (i := 2) sc__law_divisor.nd rfl (by first | exact .inl rfl | exact .inr rfl)) (show ∀ i ∈ ([2] : List Nat), i ∉ ([] : List Nat) from by decide)
  (sss_cons (ss_set (i := 3) (show 3 ∉ ([] : List Nat) from by decide) sc__law_divisor.nd rfl (by first | exact .inl rfl | exact .inr rfl) (se_callB vl_abs (by rfl) T.z_abs (by with_unfolding_all rfl) (sa_cons (se_var (i := 2)) sa_nil)))
  (sss_one (ss_while poF (st_cmp (vr_gt hr.u0) (se_var (i := 3)) se_int (by with_unfolding_all rfl))
  (sss_cons (ss_set (i := 4) (show 4 ∉ ([] : List Nat) from by decide) sc__law_divisor.nd rfl (by first | exact .inl rfl | exact .inr rfl) (se_op vr_mod (se_callTy vl_int (by rfl) T.z_int (by with_unfolding_all rfl) (sa_cons (se_var (i := 1)) sa_nil)) (se_var (i := 3))))
  (sss_cons (ss_set (i := 1) (show 1 ∉ ([] : List Nat) from by decide) sc__law_divisor.nd rfl (by first | exact .inl rfl | exact .inr rfl) (se_var (i := 3)))
  (sss_one (ss_set (i := 3) (show 3 ∉ ([] : List Nat) from by decide) sc__law_divisor.nd rfl (by first | exact .inl rfl | exact .inr rfl) (se_var (i := 4))))))))))
  (sss_one (ss_ret (se_var (i := 1))))))
theorem der__law_lead {P : Program} {w : World} {K : PySem.W.Frag} {mg : Str → Option Value} {base : Heap} (T : Tp P w K mg base) {f : Addr} (cdv : Value) (A : Around) (outer : List Env) (s : Shared) (H : Hp) (E : XK) (hr : RoomG 0 (A.deeper (PyProof.Rows.envOfC "_law_lead" (defScope s__law_lead) s.heap.objs.size f cdv)))
    (σ₀ : L2.St) (h₀ : Hp) (xc : Addr → Value → Option Addr → Prop) (hN : Hp) : SSs (cxOf (L2.CX P w) P w K mg base ["_law_row_here", "_law_place"] "_law_lead" (defScope s__law_lead) f cdv A outer s H E) ⟨[], σ₀, h₀, xc, hN⟩ (fun cls d _ H => E cls d H) (defBody s__law_lead) (w__law_lead) :=
  (sss_cons (ss_for poF rfl (si_rng1 (by rfl) T.z_range (sa_cons (se_callB vl_len (by rfl) T.z_len (by with_unfolding_all rfl) (sa_cons (se_var (i := 0)) sa_nil)) sa_nil)) (sg_name (i := 1) sc__law_lead.nd rfl (by first | exact .inl rfl | exact .inr rfl)) (show ∀ i ∈ ([1] : List Nat), i ∉ ([] : List Nat) from by decide)
  (sss_one (ss_if (st_cmp (vr_ne hr.u64) (se_ix vi_ix (se_var (i := 0)) (se_var (i := 1))) se_int (by with_unfolding_all rfl))
  (sss_one (ss_ret (se_var (i := 1))))
  sss_nil)))
  (sss_one (ss_ret (se_neg se_int))))
theorem der__law_sum {P : Program} {w : World} {K : PySem.W.Frag} {mg : Str → Option Value} {base : Heap} (T : Tp P w K mg base) {f : Addr} (cdv : Value) (A : Around) (outer : List Env) (s : Shared) (H : Hp) (E : XK) (hr : RoomG 0 (A.deeper (PyProof.Rows.envOfC "_law_sum" (defScope s__law_sum) s.heap.objs.size f cdv)))
    (σ₀ : L2.St) (h₀ : Hp) (xc : Addr → Value → Option Addr → Prop) (hN : Hp) : SSs (cxOf (L2.CX P w) P w K mg base ["_law_one", "_law_factor", "_law_other", "_law_second", "_law_k"] "_law_sum" (defScope s__law_sum) f cdv A outer s H E) ⟨[], σ₀, h₀, xc, hN⟩ (fun cls d _ H => E cls d H) (defBody s__law_sum) (w__law_sum) :=
  (sss_one (ss_ret (se_callTy vl_tuple (by rfl) T.z_tuple (by with_unfolding_all rfl) (sa_cons (se_lcV (own := [("_law_k", 4)]) rfl sc__law_sum.nd (show BlkOk ["_law_one", "_law_factor", "_law_other", "_law_second", "_law_k"] (defScope s__law_sum) _ [("_law_k", 4)] from ⟨rfl, by decide +kernel, by decide +kernel, by decide +kernel, by decide +kernel⟩) (si_rng1 (by rfl) T.z_range (sa_cons (se_callB vl_len (by rfl) T.z_len (by with_unfolding_all rfl) (sa_cons (se_var (i := 0)) sa_nil)) sa_nil)) (show ∀ i ∈ ([4] : List Nat), i ∉ ([] : List Nat) from by decide) (show ∀ i ∈ ([4] : List Nat), i ∈ ([4] : List Nat) from by decide) (fun _ _ _ _ _ => (sg_name (i := 4) sc__law_sum.nd rfl (by first | exact .inl rfl | exact .inr rfl))) (fun _ _ _ _ _ => sts_nil) (fun _ _ _ _ _ => (se_op vr_add (se_op vr_mulT (se_ix vi_ix (se_var (i := 0)) (se_var (i := 4))) (se_var (i := 1))) (se_op vr_mulT (se_ix vi_ix (se_var (i := 2)) (se_var (i := 4))) (se_var (i := 3)))))) sa_nil))))
theorem der__law_product {P : Program} {w : World} {K : PySem.W.Frag} {mg : Str → Option Value} {base : Heap} (T : Tp P w K mg base) {f : Addr} (cdv : Value) (A : Around) (outer : List Env) (s : Shared) (H : Hp) (E : XK) (hr : RoomG 0 (A.deeper (PyProof.Rows.envOfC "_law_product" (defScope s__law_product) s.heap.objs.size f cdv)))
    (σ₀ : L2.St) (h₀ : Hp) (xc : Addr → Value → Option Addr → Prop) (hN : Hp) : SSs (cxOf (L2.CX P w) P w K mg base ["_law_one", "_law_other", "_law_k"] "_law_product" (defScope s__law_product) f cdv A outer s H E) ⟨[], σ₀, h₀, xc, hN⟩ (fun cls d _ H => E cls d H) (defBody s__law_product) (w__law_product) :=
  (sss_one (ss_ret (se_callB (vl_sum rfl) (by rfl) T.z_sum (by with_unfolding_all rfl) (sa_cons (se_lcV (own := [("_law_k", 2)]) rfl sc__law_product.nd (show BlkOk ["_law_one", "_law_other", "_law_k"] (defScope s__law_product) _ [("_law_k", 2)] from ⟨rfl, by decide +kernel, by decide +kernel, by decide +kernel, by decide +kernel⟩) (si_rng1 (by rfl) T.z_range (sa_cons (se_callB vl_len (by rfl) T.z_len (by with_unfolding_all rfl) (sa_cons (se_var (i := 0)) sa_nil)) sa_nil)) (show ∀ i ∈ ([2] : List Nat), i ∉ ([] : List Nat) from by decide) (show ∀ i ∈ ([2] : List Nat), i ∈ ([2] : List Nat) from by decide) (fun _ _ _ _ _ => (sg_name (i := 2) sc__law_product.nd rfl (by first | exact .inl rfl | exact .inr rfl))) (fun _ _ _ _ _ => sts_nil) (fun _ _ _ _ _ => (se_op vr_mulT (se_ix vi_ix (se_var (i := 0)) (se_var (i := 2))) (se_ix vi_ix (se_var (i := 1)) (se_var (i := 2)))))) sa_nil))))
theorem der_common_multiple {P : Program} {w : World} {K : PySem.W.Frag} {mg : Str → Option Value} {base : Heap} (T : Tp P w K mg base) {S_common_divisor : FSpec} (mS_common_divisor : MonoF S_common_divisor) (O_common_divisor : Ok P w K mg base "common_divisor" ["one", "other"] 1 S_common_divisor) {f : Addr} (cdv : Value) (A : Around) (outer : List Env) (s : Shared) (H : Hp) (E : XK) (hr : RoomG 1 (A.deeper (PyProof.Rows.envOfC "common_multiple" (defScope s_common_multiple) s.heap.objs.size f cdv)))
    (σ₀ : L2.St) (h₀ : Hp) (xc : Addr → Value → Option Addr → Prop) (hN : Hp) : SSs (cxOf (L2.CX P w) P w K mg base ["numbers", "multiple", "number"] "common_multiple" (defScope s_common_multiple) f cdv A outer s H E) ⟨[], σ₀, h₀, xc, hN⟩ (fun cls d _ H => E cls d H) (defBody s_common_multiple) (w_common_multiple S_common_divisor) :=
  (sss_cons (ss_set (i := 1) (show 1 ∉ ([] : List Nat) from by decide) sc_common_multiple.nd rfl (by first | exact .inl rfl | exact .inr rfl) se_int)
  (sss_cons (ss_for poF rfl (si_it (se_var (i := 0))) (sg_name (i := 2) sc_common_multiple.nd rfl (by first | exact .inl rfl | exact .inr rfl)) (show ∀ i ∈ ([2] : List Nat), i ∉ ([] : List Nat) from by decide)
  (sss_one (ss_set (i := 1) (show 1 ∉ ([] : List Nat) from by decide) sc_common_multiple.nd rfl (by first | exact .inl rfl | exact .inr rfl) (se_op vr_mulT (se_var (i := 1)) (se_op vr_div (se_var (i := 2)) (se_callO O_common_divisor mS_common_divisor tkF hr (by rfl) (sa_cons (se_frz (se_var (i := 1))) (sa_cons (se_frz (se_var (i := 2))) sa_nil))))))))
  (sss_one (ss_ret (se_var (i := 1))))))
theorem der_simplified {P : Program} {w : World} {K : PySem.W.Frag} {mg : Str → Option Value} {base : Heap} (T : Tp P w K mg base) {S_common_divisor S_lead_position : FSpec} (mS_common_divisor : MonoF S_common_divisor) (mS_lead_position : MonoF S_lead_position) (O_common_divisor : Ok P w K mg base "common_divisor" ["one", "other"] 1 S_common_divisor) (O_lead_position : Ok P w K mg base "lead_position" ["row"] 1 S_lead_position) {f : Addr} (cdv : Value) (A : Around) (outer : List Env) (s : Shared) (H : Hp) (E : XK) (hr : RoomG 1 (A.deeper (PyProof.Rows.envOfC "simplified" (defScope s_simplified) s.heap.objs.size f cdv)))
    (σ₀ : L2.St) (h₀ : Hp) (xc : Addr → Value → Option Addr → Prop) (hN : Hp) : SSs (cxOf (L2.CX P w) P w K mg base ["row", "divisor", "entry"] "simplified" (defScope s_simplified) f cdv A outer s H E) ⟨[], σ₀, h₀, xc, hN⟩ (fun cls d _ H => E cls d H) (defBody s_simplified) (w_simplified S_common_divisor S_lead_position) :=
  (sss_cons (ss_set (i := 1) (show 1 ∉ ([] : List Nat) from by decide) sc_simplified.nd rfl (by first | exact .inl rfl | exact .inr rfl) se_int)
  (sss_cons (ss_for poF rfl (si_it (se_var (i := 0))) (sg_name (i := 2) sc_simplified.nd rfl (by first | exact .inl rfl | exact .inr rfl)) (show ∀ i ∈ ([2] : List Nat), i ∉ ([] : List Nat) from by decide)
  (sss_one (ss_set (i := 1) (show 1 ∉ ([] : List Nat) from by decide) sc_simplified.nd rfl (by first | exact .inl rfl | exact .inr rfl) (se_callO O_common_divisor mS_common_divisor tkF hr (by rfl) (sa_cons (se_frz (se_var (i := 1))) (sa_cons (se_frz (se_var (i := 2))) sa_nil))))))
  (sss_cons (ss_if (st_cmp (vr_eq hr.u64) (se_var (i := 1)) se_int (by with_unfolding_all rfl))
  (sss_one (ss_ret (se_callTy vl_tuple (by rfl) T.z_tuple (by with_unfolding_all rfl) (sa_cons (se_var (i := 0)) sa_nil))))
  sss_nil)
  (sss_cons (ss_if (st_cmp (vr_lt hr.u0) (se_ix vi_ix (se_var (i := 0)) (se_callO O_lead_position mS_lead_position tkF hr (by rfl) (sa_cons (se_frz (se_var (i := 0))) sa_nil))) se_int (by with_unfolding_all rfl))
  (sss_one (ss_set (i := 1) (show 1 ∉ ([] : List Nat) from by decide) sc_simplified.nd rfl (by first | exact .inl rfl | exact .inr rfl) (se_neg (se_var (i := 1)))))
  sss_nil)
  (sss_one (ss_ret (se_callTy vl_tuple (by rfl) T.z_tuple (by with_unfolding_all rfl) (sa_cons (se_lcV (own := [("entry", 2)]) rfl sc_simplified.nd (show BlkOk ["row", "divisor", "entry"] (defScope s_simplified) _ [("entry", 2)] from ⟨rfl, by decide +kernel, by decide +kernel, by decide +kernel, by decide +kernel⟩) (si_it (se_var (i := 0))) (show ∀ i ∈ ([2] : List Nat), i ∉ ([] : List Nat) from by decide) (show ∀ i ∈ ([2] : List Nat), i ∈ ([2] : List Nat) from by decide) (fun _ _ _ _ _ => (sg_name (i := 2) sc_simplified.nd rfl (by first | exact .inl rfl | exact .inr rfl))) (fun _ _ _ _ _ => sts_nil) (fun _ _ _ _ _ => (se_op vr_div (se_var (i := 2)) (se_var (i := 1))))) sa_nil))))))))
theorem der__law_primitive {P : Program} {w : World} {K : PySem.W.Frag} {mg : Str → Option Value} {base : Heap} (T : Tp P w K mg base) {S__law_divisor : FSpec} (mS__law_divisor : MonoF S__law_divisor) (O__law_divisor : Ok P w K mg base "_law_divisor" ["_law_row_here"] 1 S__law_divisor) {f : Addr} (cdv : Value) (A : Around) (outer : List Env) (s : Shared) (H : Hp) (E : XK) (hr : RoomG 1 (A.deeper (PyProof.Rows.envOfC "_law_primitive" (defScope s__law_primitive) s.heap.objs.size f cdv)))
    (σ₀ : L2.St) (h₀ : Hp) (xc : Addr → Value → Option Addr → Prop) (hN : Hp) : SSs (cxOf (L2.CX P w) P w K mg base ["_law_row_here", "_law_divisor_here", "_law_entry"] "_law_primitive" (defScope s__law_primitive) f cdv A outer s H E) ⟨[], σ₀, h₀, xc, hN⟩ (fun cls d _ H => E cls d H) (defBody s__law_primitive) (w__law_primitive S__law_divisor) :=
  (sss_cons (ss_set (i := 1) (show 1 ∉ ([] : List Nat) from by decide) sc__law_primitive.nd rfl (by first | exact .inl rfl | exact .inr rfl) (se_callO O__law_divisor mS__law_divisor tkF hr (by rfl) (sa_cons (se_frz (se_var (i := 0))) sa_nil)))
  (sss_cons (ss_if (st_cmp (vr_lt hr.u0) (se_var (i := 1)) se_int (by with_unfolding_all rfl))
  (sss_one (ss_ret (se_callTy vl_list (by rfl) T.z_list (by with_unfolding_all rfl) (sa_cons (se_var (i := 0)) sa_nil))))
  sss_nil)
  (sss_one (ss_ret (se_lcV (own := [("_law_entry", 2)]) rfl sc__law_primitive.nd (show BlkOk ["_law_row_here", "_law_divisor_here", "_law_entry"] (defScope s__law_primitive) _ [("_law_entry", 2)] from ⟨rfl, by decide +kernel, by decide +kernel, by decide +kernel, by decide +kernel⟩) (si_it (se_var (i := 0))) (show ∀ i ∈ ([2] : List Nat), i ∉ ([] : List Nat) from by decide) (show ∀ i ∈ ([2] : List Nat), i ∈ ([2] : List Nat) from by decide) (fun _ _ _ _ _ => (sg_name (i := 2) sc__law_primitive.nd rfl (by first | exact .inl rfl | exact .inr rfl))) (fun _ _ _ _ _ => sts_nil) (fun _ _ _ _ _ => (se_op vr_div (se_var (i := 2)) (se_var (i := 1)))))))))
theorem der__law_is_row {P : Program} {w : World} {K : PySem.W.Frag} {mg : Str → Option Value} {base : Heap} (T : Tp P w K mg base) {S__law_is_integer : FSpec} (mS__law_is_integer : MonoF S__law_is_integer) (O__law_is_integer : Ok P w K mg base "_law_is_integer" ["_law_value"] 1 S__law_is_integer) {f : Addr} (cdv : Value) (A : Around) (outer : List Env) (s : Shared) (H : Hp) (E : XK) (hr : RoomG 1 (A.deeper (PyProof.Rows.envOfC "_law_is_row" (defScope s__law_is_row) s.heap.objs.size f cdv)))
    (σ₀ : L2.St) (h₀ : Hp) (xc : Addr → Value → Option Addr → Prop) (hN : Hp) : SSs (cxOf (L2.CX P w) P w K mg base ["_law_row_here", "_law_width_here", "_law_entry"] "_law_is_row" (defScope s__law_is_row) f cdv A outer s H E) ⟨[], σ₀, h₀, xc, hN⟩ (fun cls d _ H => E cls d H) (defBody s__law_is_row) (w__law_is_row S__law_is_integer) :=
  (sss_cons (ss_if (SPW.st (spw_or (st_not (st_tru (se_isi (T := .tup) (se_var (i := 0)) (by rfl) T.z_isinstance (by rfl) T.z_tuple (by with_unfolding_all rfl)))) (spw_or1 (st_cmp (vr_ne hr.u64) (se_callB vl_len (by rfl) T.z_len (by with_unfolding_all rfl) (sa_cons (se_var (i := 0)) sa_nil)) (se_var (i := 1)) (by with_unfolding_all rfl)))))
  (sss_one (ss_ret se_bl))
  sss_nil)
  (sss_one (ss_ret (se_callB (vl_all rfl) (by rfl) T.z_all (by with_unfolding_all rfl) (sa_cons (se_lcV (own := [("_law_entry", 2)]) rfl sc__law_is_row.nd (show BlkOk ["_law_row_here", "_law_width_here", "_law_entry"] (defScope s__law_is_row) _ [("_law_entry", 2)] from ⟨rfl, by decide +kernel, by decide +kernel, by decide +kernel, by decide +kernel⟩) (si_it (se_var (i := 0))) (show ∀ i ∈ ([2] : List Nat), i ∉ ([] : List Nat) from by decide) (show ∀ i ∈ ([2] : List Nat), i ∈ ([2] : List Nat) from by decide) (fun _ _ _ _ _ => (sg_name (i := 2) sc__law_is_row.nd rfl (by first | exact .inl rfl | exact .inr rfl))) (fun _ _ _ _ _ => sts_nil) (fun _ _ _ _ _ => (se_callO O__law_is_integer mS__law_is_integer tk0 hr (by rfl) (sa_cons (se_frz (se_var (i := 2))) sa_nil)))) sa_nil)))))
theorem der__law_row {P : Program} {w : World} {K : PySem.W.Frag} {mg : Str → Option Value} {base : Heap} (T : Tp P w K mg base) {S__law_take S__law_sum : FSpec} (mS__law_take : MonoF S__law_take) (mS__law_sum : MonoF S__law_sum) (O__law_take : Ok P w K mg base "_law_take" ["_law_bag_here", "_law_size"] 1 S__law_take) (O__law_sum : Ok P w K mg base "_law_sum" ["_law_one", "_law_factor", "_law_other", "_law_second"] 1 S__law_sum) {f : Addr} (cdv : Value) (A : Around) (outer : List Env) (s : Shared) (H : Hp) (E : XK) (hr : RoomG 1 (A.deeper (PyProof.Rows.envOfC "_law_row" (defScope s__law_row) s.heap.objs.size f cdv)))
    (σ₀ : L2.St) (h₀ : Hp) (xc : Addr → Value → Option Addr → Prop) (hN : Hp) : SSs (cxOf (L2.CX P w) P w K mg base ["_law_bag_here", "_law_width_here", "_law_rows_here", "_law_way", "_law_one", "_law_factor", "_law_other", "_law_span", "_law_row_here", "_law_k", "_law_entry"] "_law_row" (defScope s__law_row) f cdv A outer s H E) ⟨[0, 2], σ₀, h₀, xc, hN⟩ (fun cls d _ H => E cls d H) (defBody s__law_row) (w__law_row S__law_take S__law_sum) :=
  (sss_cons (ss_set (i := 3) (show 3 ∉ ([0, 2] : List Nat) from by decide) sc__law_row.nd rfl (by first | exact .inl rfl | exact .inr rfl) (se_callO O__law_take mS__law_take tkF hr (by rfl) (sa_cons (se_var (i := 0)) (sa_cons se_int sa_nil))))
  (sss_cons (ss_if (SPW.st (spw_and (st_cmp (vr_eq hr.u64) (se_var (i := 3)) se_int (by with_unfolding_all rfl)) (spw_and1 (st_tru (se_var (i := 2))))))
  (sss_cons (ss_set (i := 4) (show 4 ∉ ([0, 2] : List Nat) from by decide) sc__law_row.nd rfl (by first | exact .inl rfl | exact .inr rfl) (se_ix vi_ix (se_var (i := 2)) (se_callO O__law_take mS__law_take tkF hr (by rfl) (sa_cons (se_var (i := 0)) (sa_cons (se_frz (se_callB (vl_min2 rfl) (by rfl) T.z_min (by with_unfolding_all rfl) (sa_cons se_int (sa_cons (se_callB vl_len (by rfl) T.z_len (by with_unfolding_all rfl) (sa_cons (se_var (i := 2)) sa_nil)) sa_nil)))) sa_nil)))))
  (sss_one (ss_ret (se_callO O__law_sum mS__law_sum tkF hr (by rfl) (sa_cons (se_frz (se_var (i := 4))) (sa_cons (se_frz (se_op vr_sub (se_callO O__law_take mS__law_take tkF hr (by rfl) (sa_cons (se_var (i := 0)) (sa_cons se_int sa_nil))) se_int)) (sa_cons (se_frz (se_var (i := 4))) (sa_cons se_int sa_nil))))))))
  sss_nil)
  (sss_cons (ss_if (SPW.st (spw_and (st_cmp (vr_eq hr.u64) (se_var (i := 3)) se_int (by with_unfolding_all rfl)) (spw_and1 (st_tru (se_var (i := 2))))))
  (sss_cons (ss_set (i := 4) (show 4 ∉ ([0, 2] : List Nat) from by decide) sc__law_row.nd rfl (by first | exact .inl rfl | exact .inr rfl) (se_ix vi_ix (se_var (i := 2)) (se_callO O__law_take mS__law_take tkF hr (by rfl) (sa_cons (se_var (i := 0)) (sa_cons (se_frz (se_callB (vl_min2 rfl) (by rfl) T.z_min (by with_unfolding_all rfl) (sa_cons se_int (sa_cons (se_callB vl_len (by rfl) T.z_len (by with_unfolding_all rfl) (sa_cons (se_var (i := 2)) sa_nil)) sa_nil)))) sa_nil)))))
  (sss_cons (ss_set (i := 5) (show 5 ∉ ([0, 2] : List Nat) from by decide) sc__law_row.nd rfl (by first | exact .inl rfl | exact .inr rfl) (se_op vr_sub (se_callO O__law_take mS__law_take tkF hr (by rfl) (sa_cons (se_var (i := 0)) (sa_cons se_int sa_nil))) se_int))
  (sss_cons (ss_set (i := 6) (show 6 ∉ ([0, 2] : List Nat) from by decide) sc__law_row.nd rfl (by first | exact .inl rfl | exact .inr rfl) (se_ix vi_ix (se_var (i := 2)) (se_callO O__law_take mS__law_take tkF hr (by rfl) (sa_cons (se_var (i := 0)) (sa_cons (se_frz (se_callB (vl_min2 rfl) (by rfl) T.z_min (by with_unfolding_all rfl) (sa_cons se_int (sa_cons (se_callB vl_len (by rfl) T.z_len (by with_unfolding_all rfl) (sa_cons (se_var (i := 2)) sa_nil)) sa_nil)))) sa_nil)))))
  (sss_one (ss_ret (se_callO O__law_sum mS__law_sum tkF hr (by rfl) (sa_cons (se_frz (se_var (i := 4))) (sa_cons (se_frz (se_var (i := 5))) (sa_cons (se_frz (se_var (i := 6))) (sa_cons (se_frz (se_op vr_sub (se_callO O__law_take mS__law_take tkF hr (by rfl) (sa_cons (se_var (i := 0)) (sa_cons se_int sa_nil))) se_int)) sa_nil))))))))))
  sss_nil)
  (sss_cons (ss_set (i := 7) (show 7 ∉ ([0, 2] : List Nat) from by decide) sc__law_row.nd rfl (by first | exact .inl rfl | exact .inr rfl) se_int)
  (sss_cons (ss_if (st_cmp (vr_eq hr.u64) (se_var (i := 3)) se_int (by with_unfolding_all rfl))
  (sss_cons (ss_set (i := 7) (show 7 ∉ ([0, 2] : List Nat) from by decide) sc__law_row.nd rfl (by first | exact .inl rfl | exact .inr rfl) se_int)
  (sss_one (ss_if (st_cmp (vr_lt hr.u0) (se_var (i := 1)) se_int (by with_unfolding_all rfl))
  (sss_one (ss_set (i := 7) (show 7 ∉ ([0, 2] : List Nat) from by decide) sc__law_row.nd rfl (by first | exact .inl rfl | exact .inr rfl) (se_op vr_pow se_int se_int)))
  sss_nil)))
  sss_nil)
  (sss_cons (ss_set (i := 8) (show 8 ∉ ([0, 2] : List Nat) from by decide) sc__law_row.nd rfl (by first | exact .inl rfl | exact .inr rfl) (se_lst sa_nil))
  (sss_cons (ss_for poF rfl (si_rng1 (by rfl) T.z_range (sa_cons (se_var (i := 1)) sa_nil)) (sg_name (i := 9) sc__law_row.nd rfl (by first | exact .inl rfl | exact .inr rfl)) (show ∀ i ∈ ([9] : List Nat), i ∉ ([0, 2] : List Nat) from by decide)
  (sss_cons (ss_set (i := 10) (show 10 ∉ ([0, 2] : List Nat) from by decide) sc__law_row.nd rfl (by first | exact .inl rfl | exact .inr rfl) se_int)
  (sss_cons (ss_if (st_cmp (vr_gt hr.u0) (se_callO O__law_take mS__law_take tkF hr (by rfl) (sa_cons (se_var (i := 0)) (sa_cons se_int sa_nil))) se_int (by with_unfolding_all rfl))
  (sss_one (ss_set (i := 10) (show 10 ∉ ([0, 2] : List Nat) from by decide) sc__law_row.nd rfl (by first | exact .inl rfl | exact .inr rfl) (se_op vr_sub (se_callO O__law_take mS__law_take tkF hr (by rfl) (sa_cons (se_var (i := 0)) (sa_cons (se_frz (se_op vr_add (se_op vr_mulT se_int (se_var (i := 7))) se_int)) sa_nil))) (se_var (i := 7)))))
  sss_nil)
  (sss_one (ss_app (i := 8) (se_var (i := 10)))))))
  (sss_one (ss_ret (se_callTy vl_tuple (by rfl) T.z_tuple (by with_unfolding_all rfl) (sa_cons (se_var (i := 8)) sa_nil)))))))))))
theorem der__law_width {P : Program} {w : World} {K : PySem.W.Frag} {mg : Str → Option Value} {base : Heap} (T : Tp P w K mg base) {S__law_take : FSpec} (mS__law_take : MonoF S__law_take) (O__law_take : Ok P w K mg base "_law_take" ["_law_bag_here", "_law_size"] 1 S__law_take) {f : Addr} (cdv : Value) (A : Around) (outer : List Env) (s : Shared) (H : Hp) (E : XK) (hr : RoomG 1 (A.deeper (PyProof.Rows.envOfC "_law_width" (defScope s__law_width) s.heap.objs.size f cdv)))
    (σ₀ : L2.St) (h₀ : Hp) (xc : Addr → Value → Option Addr → Prop) (hN : Hp) : SSs (cxOf (L2.CX P w) P w K mg base ["_law_bag_here", "_law_width_here"] "_law_width" (defScope s__law_width) f cdv A outer s H E) ⟨[0], σ₀, h₀, xc, hN⟩ (fun cls d _ H => E cls d H) (defBody s__law_width) (w__law_width S__law_take) :=
  (sss_cons (ss_set (i := 1) (show 1 ∉ ([0] : List Nat) from by decide) sc__law_width.nd rfl (by first | exact .inl rfl | exact .inr rfl) (se_ix vi_ix (se_lst (sa_cons se_int (sa_cons se_int (sa_cons se_int (sa_cons se_int (sa_cons se_int (sa_cons se_int (sa_cons se_int (sa_cons se_int sa_nil))))))))) (se_callO O__law_take mS__law_take tkF hr (by rfl) (sa_cons (se_var (i := 0)) (sa_cons se_int sa_nil)))))
  (sss_cons (ss_if (st_cmp (vr_eq hr.u64) (se_var (i := 1)) se_int (by with_unfolding_all rfl))
  (sss_one (ss_set (i := 1) (show 1 ∉ ([0] : List Nat) from by decide) sc__law_width.nd rfl (by first | exact .inl rfl | exact .inr rfl) (se_op vr_sub se_int (se_callO O__law_take mS__law_take tkF hr (by rfl) (sa_cons (se_var (i := 0)) (sa_cons se_int sa_nil))))))
  sss_nil)
  (sss_one (ss_ret (se_var (i := 1))))))
theorem der_cleared {P : Program} {w : World} {K : PySem.W.Frag} {mg : Str → Option Value} {base : Heap} (T : Tp P w K mg base) {S_simplified : FSpec} (mS_simplified : MonoF S_simplified) (O_simplified : Ok P w K mg base "simplified" ["row"] 2 S_simplified) {f : Addr} (cdv : Value) (A : Around) (outer : List Env) (s : Shared) (H : Hp) (E : XK) (hr : RoomG 2 (A.deeper (PyProof.Rows.envOfC "cleared" (defScope s_cleared) s.heap.objs.size f cdv)))
    (σ₀ : L2.St) (h₀ : Hp) (xc : Addr → Value → Option Addr → Prop) (hN : Hp) : SSs (cxOf (L2.CX P w) P w K mg base ["row", "pivot", "position", "up", "down", "entry", "other"] "cleared" (defScope s_cleared) f cdv A outer s H E) ⟨[], σ₀, h₀, xc, hN⟩ (fun cls d _ H => E cls d H) (defBody s_cleared) (w_cleared S_simplified) :=
  (sss_cons (ss_if (st_cmp (vr_eq hr.u64) (se_ix vi_ix (se_var (i := 0)) (se_var (i := 2))) se_int (by with_unfolding_all rfl))
  (sss_one (ss_ret (se_var (i := 0))))
  sss_nil)
  (sss_cons (ss_set (i := 3) (show 3 ∉ ([] : List Nat) from by decide) sc_cleared.nd rfl (by first | exact .inl rfl | exact .inr rfl) (se_ix vi_ix (se_var (i := 1)) (se_var (i := 2))))
  (sss_cons (ss_set (i := 4) (show 4 ∉ ([] : List Nat) from by decide) sc_cleared.nd rfl (by first | exact .inl rfl | exact .inr rfl) (se_ix vi_ix (se_var (i := 0)) (se_var (i := 2))))
  (sss_one (ss_ret (se_callO O_simplified mS_simplified tkF hr (by rfl) (sa_cons (se_frz (se_lcV (own := [("entry", 5), ("other", 6)]) rfl sc_cleared.nd (show BlkOk ["row", "pivot", "position", "up", "down", "entry", "other"] (defScope s_cleared) _ [("entry", 5), ("other", 6)] from ⟨rfl, by decide +kernel, by decide +kernel, by decide +kernel, by decide +kernel⟩) (si_zip (by rfl) T.z_zip (sa_cons (se_var (i := 0)) (sa_cons (se_var (i := 1)) sa_nil))) (show ∀ i ∈ ([5, 6] : List Nat), i ∉ ([] : List Nat) from by decide) (show ∀ i ∈ ([5, 6] : List Nat), i ∈ ([5, 6] : List Nat) from by decide) (fun _ _ _ _ _ => (sg_tup (is := [5, 6]) rfl (pgs_cons (pg_name (i := 5) sc_cleared.nd rfl (by first | exact .inl rfl | exact .inr rfl)) (pgs_cons (pg_name (i := 6) sc_cleared.nd rfl (by first | exact .inl rfl | exact .inr rfl)) pgs_nil)))) (fun _ _ _ _ _ => sts_nil) (fun _ _ _ _ _ => (se_op vr_sub (se_op vr_mulT (se_var (i := 3)) (se_var (i := 5))) (se_op vr_mulT (se_var (i := 4)) (se_var (i := 6))))))) sa_nil)))))))
theorem der__law_cleared {P : Program} {w : World} {K : PySem.W.Frag} {mg : Str → Option Value} {base : Heap} (T : Tp P w K mg base) {S__law_primitive : FSpec} (mS__law_primitive : MonoF S__law_primitive) (O__law_primitive : Ok P w K mg base "_law_primitive" ["_law_row_here"] 2 S__law_primitive) {f : Addr} (cdv : Value) (A : Around) (outer : List Env) (s : Shared) (H : Hp) (E : XK) (hr : RoomG 2 (A.deeper (PyProof.Rows.envOfC "_law_cleared" (defScope s__law_cleared) s.heap.objs.size f cdv)))
    (σ₀ : L2.St) (h₀ : Hp) (xc : Addr → Value → Option Addr → Prop) (hN : Hp) : SSs (cxOf (L2.CX P w) P w K mg base ["_law_row_here", "_law_place", "_law_other", "_law_factor", "_law_lead_here", "_law_k"] "_law_cleared" (defScope s__law_cleared) f cdv A outer s H E) ⟨[], σ₀, h₀, xc, hN⟩ (fun cls d _ H => E cls d H) (defBody s__law_cleared) (w__law_cleared S__law_primitive) :=
  (sss_cons (ss_if (st_cmp (vr_eq hr.u64) (se_ix vi_ix (se_var (i := 0)) (se_var (i := 1))) se_int (by with_unfolding_all rfl))
  (sss_one (ss_ret (se_callTy vl_list (by rfl) T.z_list (by with_unfolding_all rfl) (sa_cons (se_var (i := 0)) sa_nil))))
  sss_nil)
  (sss_cons (ss_set (i := 3) (show 3 ∉ ([] : List Nat) from by decide) sc__law_cleared.nd rfl (by first | exact .inl rfl | exact .inr rfl) (se_ix vi_ix (se_var (i := 0)) (se_var (i := 1))))
  (sss_cons (ss_set (i := 4) (show 4 ∉ ([] : List Nat) from by decide) sc__law_cleared.nd rfl (by first | exact .inl rfl | exact .inr rfl) (se_ix vi_ix (se_var (i := 2)) (se_var (i := 1))))
  (sss_one (ss_ret (se_callO O__law_primitive mS__law_primitive tkF hr (by rfl) (sa_cons (se_frz (se_lcV (own := [("_law_k", 5)]) rfl sc__law_cleared.nd (show BlkOk ["_law_row_here", "_law_place", "_law_other", "_law_factor", "_law_lead_here", "_law_k"] (defScope s__law_cleared) _ [("_law_k", 5)] from ⟨rfl, by decide +kernel, by decide +kernel, by decide +kernel, by decide +kernel⟩) (si_rng1 (by rfl) T.z_range (sa_cons (se_callB vl_len (by rfl) T.z_len (by with_unfolding_all rfl) (sa_cons (se_var (i := 0)) sa_nil)) sa_nil)) (show ∀ i ∈ ([5] : List Nat), i ∉ ([] : List Nat) from by decide) (show ∀ i ∈ ([5] : List Nat), i ∈ ([5] : List Nat) from by decide) (fun _ _ _ _ _ => (sg_name (i := 5) sc__law_cleared.nd rfl (by first | exact .inl rfl | exact .inr rfl))) (fun _ _ _ _ _ => sts_nil) (fun _ _ _ _ _ => (se_op vr_sub (se_op vr_mulT (se_ix vi_ix (se_var (i := 0)) (se_var (i := 5))) (se_var (i := 4))) (se_op vr_mulT (se_ix vi_ix (se_var (i := 2)) (se_var (i := 5))) (se_var (i := 3))))))) sa_nil)))))))
theorem der__law_is_form {P : Program} {w : World} {K : PySem.W.Frag} {mg : Str → Option Value} {base : Heap} (T : Tp P w K mg base) {S__law_is_row S__law_lead S__law_divisor : FSpec} (mS__law_is_row : MonoF S__law_is_row) (mS__law_lead : MonoF S__law_lead) (mS__law_divisor : MonoF S__law_divisor) (O__law_is_row : Ok P w K mg base "_law_is_row" ["_law_row_here", "_law_width_here"] 2 S__law_is_row) (O__law_lead : Ok P w K mg base "_law_lead" ["_law_row_here"] 1 S__law_lead) (O__law_divisor : Ok P w K mg base "_law_divisor" ["_law_row_here"] 1 S__law_divisor) {f : Addr} (cdv : Value) (A : Around) (outer : List Env) (s : Shared) (H : Hp) (E : XK) (hr : RoomG 2 (A.deeper (PyProof.Rows.envOfC "_law_is_form" (defScope s__law_is_form) s.heap.objs.size f cdv)))
    (σ₀ : L2.St) (h₀ : Hp) (xc : Addr → Value → Option Addr → Prop) (hN : Hp) : SSs (cxOf (L2.CX P w) P w K mg base ["_law_told", "_law_width_here", "_law_row_here", "_law_last", "_law_place", "_law_other"] "_law_is_form" (defScope s__law_is_form) f cdv A outer s H E) ⟨[0], σ₀, h₀, xc, hN⟩ (fun cls d _ H => E cls d H) (defBody s__law_is_form) (w__law_is_form S__law_is_row S__law_lead S__law_divisor) :=
  (sss_cons (ss_if (st_not (st_tru (se_isi (T := .lst) (se_var (i := 0)) (by rfl) T.z_isinstance (by rfl) T.z_list (by with_unfolding_all rfl))))
  (sss_one (ss_ret se_bl))
  sss_nil)
  (sss_cons (ss_if (st_not (st_tru (se_callB (vl_all rfl) (by rfl) T.z_all (by with_unfolding_all rfl) (sa_cons (se_lcV (own := [("_law_row_here", 2)]) rfl sc__law_is_form.nd (show BlkOk ["_law_told", "_law_width_here", "_law_row_here", "_law_last", "_law_place", "_law_other"] (defScope s__law_is_form) _ [("_law_row_here", 2)] from ⟨rfl, by decide +kernel, by decide +kernel, by decide +kernel, by decide +kernel⟩) (si_it (se_var (i := 0))) (show ∀ i ∈ ([2] : List Nat), i ∉ ([0] : List Nat) from by decide) (show ∀ i ∈ ([2] : List Nat), i ∈ ([2] : List Nat) from by decide) (fun _ _ _ _ _ => (sg_name (i := 2) sc__law_is_form.nd rfl (by first | exact .inl rfl | exact .inr rfl))) (fun _ _ _ _ _ => sts_nil) (fun _ _ _ _ _ => (se_callO O__law_is_row mS__law_is_row tk0 hr (by rfl) (sa_cons (se_frz (se_var (i := 2))) (sa_cons (se_frz (se_var (i := 1))) sa_nil))))) sa_nil))))
  (sss_one (ss_ret se_bl))
  sss_nil)
  (sss_cons (ss_set (i := 3) (show 3 ∉ ([0] : List Nat) from by decide) sc__law_is_form.nd rfl (by first | exact .inl rfl | exact .inr rfl) (se_neg se_int))
  (sss_cons (ss_for poF rfl (si_it (se_var (i := 0))) (sg_name (i := 2) sc__law_is_form.nd rfl (by first | exact .inl rfl | exact .inr rfl)) (show ∀ i ∈ ([2] : List Nat), i ∉ ([0] : List Nat) from by decide)
  (sss_cons (ss_set (i := 4) (show 4 ∉ ([0] : List Nat) from by decide) sc__law_is_form.nd rfl (by first | exact .inl rfl | exact .inr rfl) (se_callO O__law_lead mS__law_lead tkF hr (by rfl) (sa_cons (se_frz (se_var (i := 2))) sa_nil)))
  (sss_cons (ss_if (SPW.st (spw_or (st_cmp (vr_le hr.u0) (se_var (i := 4)) (se_var (i := 3)) (by with_unfolding_all rfl)) (spw_or (st_cmp (vr_lt hr.u0) (se_ix vi_ix (se_var (i := 2)) (se_var (i := 4))) se_int (by with_unfolding_all rfl)) (spw_or1 (st_cmp (vr_ne hr.u64) (se_callO O__law_divisor mS__law_divisor tkF hr (by rfl) (sa_cons (se_frz (se_var (i := 2))) sa_nil)) se_int (by with_unfolding_all rfl))))))
  (sss_one (ss_ret se_bl))
  sss_nil)
  (sss_cons (ss_if (st_cmp (vr_ne hr.u64) (se_callB vl_len (by rfl) T.z_len (by with_unfolding_all rfl) (sa_cons (se_lcV (own := [("_law_other", 5)]) rfl sc__law_is_form.nd (show BlkOk ["_law_told", "_law_width_here", "_law_row_here", "_law_last", "_law_place", "_law_other"] (defScope s__law_is_form) _ [("_law_other", 5)] from ⟨rfl, by decide +kernel, by decide +kernel, by decide +kernel, by decide +kernel⟩) (si_it (se_var (i := 0))) (show ∀ i ∈ ([5] : List Nat), i ∉ ([0] : List Nat) from by decide) (show ∀ i ∈ ([5] : List Nat), i ∈ ([5] : List Nat) from by decide) (fun _ _ _ _ _ => (sg_name (i := 5) sc__law_is_form.nd rfl (by first | exact .inl rfl | exact .inr rfl))) (fun _ _ _ _ _ => (sts_one (st_cmp (vr_ne hr.u64) (se_ix vi_ix (se_var (i := 5)) (se_var (i := 4))) se_int (by with_unfolding_all rfl)))) (fun _ _ _ _ _ => (se_var (i := 5)))) sa_nil)) se_int (by with_unfolding_all rfl))
  (sss_one (ss_ret se_bl))
  sss_nil)
  (sss_one (ss_set (i := 3) (show 3 ∉ ([0] : List Nat) from by decide) sc__law_is_form.nd rfl (by first | exact .inl rfl | exact .inr rfl) (se_var (i := 4))))))))
  (sss_one (ss_ret se_bl))))))
theorem der__law_rows {P : Program} {w : World} {K : PySem.W.Frag} {mg : Str → Option Value} {base : Heap} (T : Tp P w K mg base) {S__law_take S__law_row S__law_bag : FSpec} (mS__law_take : MonoF S__law_take) (mS__law_row : MonoF S__law_row) (mS__law_bag : MonoF S__law_bag) (O__law_take : Ok P w K mg base "_law_take" ["_law_bag_here", "_law_size"] 1 S__law_take) (O__law_row : Ok P w K mg base "_law_row" ["_law_bag_here", "_law_width_here", "_law_rows_here"] 2 S__law_row) (O__law_bag : Ok P w K mg base "_law_bag" ["_law_script", "_law_k"] 1 S__law_bag) {f : Addr} (cdv : Value) (A : Around) (outer : List Env) (s : Shared) (H : Hp) (E : XK) (hr : RoomG 2 (A.deeper (PyProof.Rows.envOfC "_law_rows" (defScope s__law_rows) s.heap.objs.size f cdv)))
    (σ₀ : L2.St) (h₀ : Hp) (xc : Addr → Value → Option Addr → Prop) (hN : Hp) : SSs (cxOf (L2.CX P w) P w K mg base ["_law_script", "_law_bag_here", "_law_width_here", "_law_rows_here", "_law_k"] "_law_rows" (defScope s__law_rows) f cdv A outer s H E) ⟨[1], σ₀, h₀, xc, hN⟩ (fun cls d _ H => E cls d H) (defBody s__law_rows) (w__law_rows S__law_take S__law_row S__law_bag) :=
  (sss_cons (ss_set (i := 3) (show 3 ∉ ([1] : List Nat) from by decide) sc__law_rows.nd rfl (by first | exact .inl rfl | exact .inr rfl) (se_lst sa_nil))
  (sss_cons (ss_for poF rfl (si_rng1 (by rfl) T.z_range (sa_cons (se_callO O__law_take mS__law_take tkF hr (by rfl) (sa_cons (se_var (i := 1)) (sa_cons se_int sa_nil))) sa_nil)) (sg_name (i := 4) sc__law_rows.nd rfl (by first | exact .inl rfl | exact .inr rfl)) (show ∀ i ∈ ([4] : List Nat), i ∉ ([1] : List Nat) from by decide)
  (sss_one (ss_app (i := 3) (se_callO O__law_row mS__law_row tkF hr (by rfl) (sa_cons (se_var (i := 1)) (sa_cons (se_frz (se_var (i := 2))) (sa_cons (se_var (i := 3)) sa_nil)))))))
  (sss_cons (ss_for poF rfl (si_rng2 (by rfl) T.z_range (sa_cons se_int (sa_cons (se_callB (vl_min2 rfl) (by rfl) T.z_min (by with_unfolding_all rfl) (sa_cons se_int (sa_cons (se_callB vl_len (by rfl) T.z_len (by with_unfolding_all rfl) (sa_cons (se_var (i := 0)) sa_nil)) sa_nil))) sa_nil))) (sg_name (i := 4) sc__law_rows.nd rfl (by first | exact .inl rfl | exact .inr rfl)) (show ∀ i ∈ ([4] : List Nat), i ∉ ([1] : List Nat) from by decide)
  (sss_one (ss_app (i := 3) (se_callT O__law_row mS__law_row tkF hr (by rfl) (se_callO O__law_bag mS__law_bag tkF hr (by rfl) (sa_cons (se_frz (se_var (i := 0))) (sa_cons (se_frz (se_var (i := 4))) sa_nil))) (sa_cons (se_frz (se_var (i := 2))) (sa_cons (se_var (i := 3)) sa_nil))))))
  (sss_one (ss_ret (se_var (i := 3)))))))
theorem der__law_tried {P : Program} {w : World} {K : PySem.W.Frag} {mg : Str → Option Value} {base : Heap} (T : Tp P w K mg base) {S__law_take S__law_sum S__law_primitive : FSpec} (mS__law_take : MonoF S__law_take) (mS__law_sum : MonoF S__law_sum) (mS__law_primitive : MonoF S__law_primitive) (O__law_take : Ok P w K mg base "_law_take" ["_law_bag_here", "_law_size"] 1 S__law_take) (O__law_sum : Ok P w K mg base "_law_sum" ["_law_one", "_law_factor", "_law_other", "_law_second"] 1 S__law_sum) (O__law_primitive : Ok P w K mg base "_law_primitive" ["_law_row_here"] 2 S__law_primitive) {f : Addr} (cdv : Value) (A : Around) (outer : List Env) (s : Shared) (H : Hp) (E : XK) (hr : RoomG 2 (A.deeper (PyProof.Rows.envOfC "_law_tried" (defScope s__law_tried) s.heap.objs.size f cdv)))
    (σ₀ : L2.St) (h₀ : Hp) (xc : Addr → Value → Option Addr → Prop) (hN : Hp) : SSs (cxOf (L2.CX P w) P w K mg base ["_law_bag_here", "_law_rows_here", "_law_width_here", "_law_blend", "_law_k", "_law_one", "_law_place", "_law_bumped", "_law_loose"] "_law_tried" (defScope s__law_tried) f cdv A outer s H E) ⟨[0], σ₀, h₀, xc, hN⟩ (fun cls d _ H => E cls d H) (defBody s__law_tried) (w__law_tried S__law_take S__law_sum S__law_primitive) :=
  (sss_cons (ss_set (i := 3) (show 3 ∉ ([0] : List Nat) from by decide) sc__law_tried.nd rfl (by first | exact .inl rfl | exact .inr rfl) (se_callTy vl_tuple (by rfl) T.z_tuple (by with_unfolding_all rfl) (sa_cons (se_op vr_mulT (se_lst (sa_cons se_int sa_nil)) (se_var (i := 2))) sa_nil)))
  (sss_cons (ss_if (st_tru (se_var (i := 1)))
  (sss_one (ss_for poF rfl (si_rng1 (by rfl) T.z_range (sa_cons (se_callO O__law_take mS__law_take tkF hr (by rfl) (sa_cons (se_var (i := 0)) (sa_cons se_int sa_nil))) sa_nil)) (sg_name (i := 4) sc__law_tried.nd rfl (by first | exact .inl rfl | exact .inr rfl)) (show ∀ i ∈ ([4] : List Nat), i ∉ ([0] : List Nat) from by decide)
  (sss_cons (ss_set (i := 5) (show 5 ∉ ([0] : List Nat) from by decide) sc__law_tried.nd rfl (by first | exact .inl rfl | exact .inr rfl) (se_ix vi_ix (se_var (i := 1)) (se_callO O__law_take mS__law_take tkF hr (by rfl) (sa_cons (se_var (i := 0)) (sa_cons (se_frz (se_callB vl_len (by rfl) T.z_len (by with_unfolding_all rfl) (sa_cons (se_var (i := 1)) sa_nil))) sa_nil)))))
  (sss_one (ss_set (i := 3) (show 3 ∉ ([0] : List Nat) from by decide) sc__law_tried.nd rfl (by first | exact .inl rfl | exact .inr rfl) (se_callO O__law_sum mS__law_sum tkF hr (by rfl) (sa_cons (se_frz (se_var (i := 3))) (sa_cons se_int (sa_cons (se_frz (se_var (i := 5))) (sa_cons (se_frz (se_op vr_sub (se_callO O__law_take mS__law_take tkF hr (by rfl) (sa_cons (se_var (i := 0)) (sa_cons se_int sa_nil))) se_int)) sa_nil))))))))))
  sss_nil)
  (sss_cons (ss_set (i := 6) (show 6 ∉ ([0] : List Nat) from by decide) sc__law_tried.nd rfl (by first | exact .inl rfl | exact .inr rfl) (se_callO O__law_take mS__law_take tkF hr (by rfl) (sa_cons (se_var (i := 0)) (sa_cons (se_frz (se_var (i := 2))) sa_nil))))
  (sss_cons (ss_set (i := 7) (show 7 ∉ ([0] : List Nat) from by decide) sc__law_tried.nd rfl (by first | exact .inl rfl | exact .inr rfl) (se_op vr_add (se_op vr_add (se_sl (se_var (i := 3)) so_none (so_some (se_var (i := 6)))) (se_tup (sa_cons (se_op vr_add (se_op vr_add (se_ix vi_ix (se_var (i := 3)) (se_var (i := 6))) se_int) (se_callO O__law_take mS__law_take tkF hr (by rfl) (sa_cons (se_var (i := 0)) (sa_cons se_int sa_nil)))) sa_nil))) (se_sl (se_var (i := 3)) (so_some (se_op vr_add (se_var (i := 6)) se_int)) so_none)))
  (sss_cons (ss_set (i := 8) (show 8 ∉ ([0] : List Nat) from by decide) sc__law_tried.nd rfl (by first | exact .inl rfl | exact .inr rfl) (se_callTy vl_tuple (by rfl) T.z_tuple (by with_unfolding_all rfl) (sa_cons (se_lcV (own := [("_law_k", 4)]) rfl sc__law_tried.nd (show BlkOk ["_law_bag_here", "_law_rows_here", "_law_width_here", "_law_blend", "_law_k", "_law_one", "_law_place", "_law_bumped", "_law_loose"] (defScope s__law_tried) _ [("_law_k", 4)] from ⟨rfl, by decide +kernel, by decide +kernel, by decide +kernel, by decide +kernel⟩) (si_rng1 (by rfl) T.z_range (sa_cons (se_var (i := 2)) sa_nil)) (show ∀ i ∈ ([4] : List Nat), i ∉ ([0] : List Nat) from by decide) (show ∀ i ∈ ([4] : List Nat), i ∈ ([4] : List Nat) from by decide) (fun _ _ _ _ _ => (sg_name (i := 4) sc__law_tried.nd rfl (by first | exact .inl rfl | exact .inr rfl))) (fun _ _ _ _ _ => sts_nil) (fun _ _ _ _ _ => (se_op vr_sub (se_callO O__law_take mS__law_take tk0 hr (by rfl) (sa_cons (se_var (i := 0)) (sa_cons se_int sa_nil))) se_int))) sa_nil)))
  (sss_one (ss_ret (se_lst (sa_cons (se_var (i := 3)) (sa_cons (se_callTy vl_tuple (by rfl) T.z_tuple (by with_unfolding_all rfl) (sa_cons (se_callO O__law_primitive mS__law_primitive tkF hr (by rfl) (sa_cons (se_frz (se_var (i := 3))) sa_nil)) sa_nil)) (sa_cons (se_var (i := 7)) (sa_cons (se_var (i := 8)) (sa_cons (se_callTy vl_tuple (by rfl) T.z_tuple (by with_unfolding_all rfl) (sa_cons (se_op vr_mulT (se_lst (sa_cons se_int sa_nil)) (se_var (i := 2))) sa_nil)) sa_nil)))))))))))))
theorem der_reduced {P : Program} {w : World} {K : PySem.W.Frag} {mg : Str → Option Value} {base : Heap} (T : Tp P w K mg base) {S_simplified S_index_with S_cleared : FSpec} (mS_simplified : MonoF S_simplified) (mS_index_with : MonoF S_index_with) (mS_cleared : MonoF S_cleared) (O_simplified : Ok P w K mg base "simplified" ["row"] 2 S_simplified) (O_index_with : Ok P w K mg base "index_with" ["rows", "position"] 1 S_index_with) (O_cleared : Ok P w K mg base "cleared" ["row", "pivot", "position"] 3 S_cleared) {f : Addr} (cdv : Value) (A : Around) (outer : List Env) (s : Shared) (H : Hp) (E : XK) (hr : RoomG 3 (A.deeper (PyProof.Rows.envOfC "reduced" (defScope s_reduced) s.heap.objs.size f cdv)))
    (σ₀ : L2.St) (h₀ : Hp) (xc : Addr → Value → Option Addr → Prop) (hN : Hp) : SSs (cxOf (L2.CX P w) P w K mg base ["rows", "width", "left", "row", "forms", "position", "index", "pivot", "others"] "reduced" (defScope s_reduced) f cdv A outer s H E) ⟨[], σ₀, h₀, xc, hN⟩ (fun cls d _ H => E cls d H) (defBody s_reduced) (w_reduced S_simplified S_index_with S_cleared) :=
  (sss_cons (ss_setLcV (own := [("row", 3)]) (i := 2) (show 2 ∉ ([] : List Nat) from by decide) rfl sc_reduced.nd rfl rfl (show BlkOk ["rows", "width", "left", "row", "forms", "position", "index", "pivot", "others"] (defScope s_reduced) _ [("row", 3)] from ⟨rfl, by decide +kernel, by decide +kernel, by decide +kernel, by decide +kernel⟩) (si_it (se_var (i := 0))) (show ∀ i ∈ ([3] : List Nat), i ∉ ([] : List Nat) from by decide) (show ∀ i ∈ ([3] : List Nat), i ∈ ([3] : List Nat) from by decide) (fun _ _ _ _ _ => (sg_name (i := 3) sc_reduced.nd rfl (by first | exact .inl rfl | exact .inr rfl))) (fun _ _ _ _ _ => sts_nil) (fun _ _ _ _ _ => (se_callO O_simplified mS_simplified tk0 hr (by rfl) (sa_cons (se_frz (se_var (i := 3))) sa_nil))))
  (sss_cons (ss_set (i := 4) (show 4 ∉ ([] : List Nat) from by decide) sc_reduced.nd rfl (by first | exact .inl rfl | exact .inr rfl) (se_lst sa_nil))
  (sss_cons (ss_for poF rfl (si_rng1 (by rfl) T.z_range (sa_cons (se_var (i := 1)) sa_nil)) (sg_name (i := 5) sc_reduced.nd rfl (by first | exact .inl rfl | exact .inr rfl)) (show ∀ i ∈ ([5] : List Nat), i ∉ ([] : List Nat) from by decide)
  (sss_cons (ss_set (i := 6) (show 6 ∉ ([] : List Nat) from by decide) sc_reduced.nd rfl (by first | exact .inl rfl | exact .inr rfl) (se_callO O_index_with mS_index_with tkF hr (by rfl) (sa_cons (se_frz (se_var (i := 2))) (sa_cons (se_frz (se_var (i := 5))) sa_nil))))
  (sss_one (ss_if (st_cmp vr_isNotN (se_var (i := 6)) se_non (by with_unfolding_all rfl))
  (sss_cons (ss_set (i := 7) (show 7 ∉ ([] : List Nat) from by decide) sc_reduced.nd rfl (by first | exact .inl rfl | exact .inr rfl) (se_ix vi_ix (se_var (i := 2)) (se_var (i := 6))))
  (sss_cons (ss_set (i := 8) (show 8 ∉ ([] : List Nat) from by decide) sc_reduced.nd rfl (by first | exact .inl rfl | exact .inr rfl) (se_op vr_add (se_sl (se_var (i := 2)) so_none (so_some (se_var (i := 6)))) (se_sl (se_var (i := 2)) (so_some (se_op vr_add (se_var (i := 6)) se_int)) so_none)))
  (sss_cons (ss_setLcV (own := [("row", 3)]) (i := 2) (show 2 ∉ ([] : List Nat) from by decide) rfl sc_reduced.nd rfl rfl (show BlkOk ["rows", "width", "left", "row", "forms", "position", "index", "pivot", "others"] (defScope s_reduced) _ [("row", 3)] from ⟨rfl, by decide +kernel, by decide +kernel, by decide +kernel, by decide +kernel⟩) (si_it (se_var (i := 8))) (show ∀ i ∈ ([3] : List Nat), i ∉ ([] : List Nat) from by decide) (show ∀ i ∈ ([3] : List Nat), i ∈ ([3] : List Nat) from by decide) (fun _ _ _ _ _ => (sg_name (i := 3) sc_reduced.nd rfl (by first | exact .inl rfl | exact .inr rfl))) (fun _ _ _ _ _ => sts_nil) (fun _ _ _ _ _ => (se_callO O_cleared mS_cleared tk0 hr (by rfl) (sa_cons (se_frz (se_var (i := 3))) (sa_cons (se_frz (se_var (i := 7))) (sa_cons (se_frz (se_var (i := 5))) sa_nil))))))
  (sss_one (ss_set (i := 4) (show 4 ∉ ([] : List Nat) from by decide) sc_reduced.nd rfl (by first | exact .inl rfl | exact .inr rfl) (se_op vr_add (se_lcV (own := [("row", 3)]) rfl sc_reduced.nd (show BlkOk ["rows", "width", "left", "row", "forms", "position", "index", "pivot", "others"] (defScope s_reduced) _ [("row", 3)] from ⟨rfl, by decide +kernel, by decide +kernel, by decide +kernel, by decide +kernel⟩) (si_it (se_var (i := 4))) (show ∀ i ∈ ([3] : List Nat), i ∉ ([] : List Nat) from by decide) (show ∀ i ∈ ([3] : List Nat), i ∈ ([3] : List Nat) from by decide) (fun _ _ _ _ _ => (sg_name (i := 3) sc_reduced.nd rfl (by first | exact .inl rfl | exact .inr rfl))) (fun _ _ _ _ _ => sts_nil) (fun _ _ _ _ _ => (se_callO O_cleared mS_cleared tk0 hr (by rfl) (sa_cons (se_frz (se_var (i := 3))) (sa_cons (se_frz (se_var (i := 7))) (sa_cons (se_frz (se_var (i := 5))) sa_nil)))))) (se_lst (sa_cons (se_var (i := 7)) sa_nil))))))))
  sss_nil))))
  (sss_one (ss_ret (se_var (i := 4)))))))
theorem der__law_echelon {P : Program} {w : World} {K : PySem.W.Frag} {mg : Str → Option Value} {base : Heap} (T : Tp P w K mg base) {S__law_cleared S__law_lead S__law_primitive : FSpec} (mS__law_cleared : MonoF S__law_cleared) (mS__law_lead : MonoF S__law_lead) (mS__law_primitive : MonoF S__law_primitive) (O__law_cleared : Ok P w K mg base "_law_cleared" ["_law_row_here", "_law_place", "_law_other"] 3 S__law_cleared) (O__law_lead : Ok P w K mg base "_law_lead" ["_law_row_here"] 1 S__law_lead) (O__law_primitive : Ok P w K mg base "_law_primitive" ["_law_row_here"] 2 S__law_primitive) {f : Addr} (cdv : Value) (A : Around) (outer : List Env) (s : Shared) (H : Hp) (E : XK) (hr : RoomG 3 (A.deeper (PyProof.Rows.envOfC "_law_echelon" (defScope s__law_echelon) s.heap.objs.size f cdv)))
    (σ₀ : L2.St) (h₀ : Hp) (xc : Addr → Value → Option Addr → Prop) (hN : Hp) : SSs (cxOf (L2.CX P w) P w K mg base ["_law_rows_here", "_law_kept", "_law_row_here", "_law_rest", "_law_one"] "_law_echelon" (defScope s__law_echelon) f cdv A outer s H E) ⟨[], σ₀, h₀, xc, hN⟩ (fun cls d _ H => E cls d H) (defBody s__law_echelon) (w__law_echelon S__law_cleared S__law_lead S__law_primitive) :=
  (sss_cons (ss_set (i := 1) (show 1 ∉ ([] : List Nat) from by decide) sc__law_echelon.nd rfl (by first | exact .inl rfl | exact .inr rfl) (se_lst sa_nil))
  (sss_cons (ss_for poF rfl (si_it (se_var (i := 0))) (sg_name (i := 2) sc__law_echelon.nd rfl (by first | exact .inl rfl | exact .inr rfl)) (show ∀ i ∈ ([2] : List Nat), i ∉ ([] : List Nat) from by decide)
  (sss_cons (ss_set (i := 3) (show 3 ∉ ([] : List Nat) from by decide) sc__law_echelon.nd rfl (by first | exact .inl rfl | exact .inr rfl) (se_callTy vl_list (by rfl) T.z_list (by with_unfolding_all rfl) (sa_cons (se_var (i := 2)) sa_nil)))
  (sss_cons (ss_pin 1 fun _ => (ss_for poF rfl (si_it (se_var (i := 1))) (sg_name (i := 4) sc__law_echelon.nd rfl (by first | exact .inl rfl | exact .inr rfl)) (show ∀ i ∈ ([4] : List Nat), i ∉ ([1] : List Nat) from by decide)
  (sss_one (ss_set (i := 3) (show 3 ∉ ([1] : List Nat) from by decide) sc__law_echelon.nd rfl (by first | exact .inl rfl | exact .inr rfl) (se_callO O__law_cleared mS__law_cleared tkF hr (by rfl) (sa_cons (se_frz (se_var (i := 3))) (sa_cons (se_frz (se_ix vi_ix (se_var (i := 4)) se_int)) (sa_cons (se_frz (se_ix vi_ix (se_var (i := 4)) se_int)) sa_nil))))))))
  (sss_one (ss_if (st_cmp (vr_ge hr.u0) (se_callO O__law_lead mS__law_lead tkF hr (by rfl) (sa_cons (se_frz (se_var (i := 3))) sa_nil)) se_int (by with_unfolding_all rfl))
  (sss_one (ss_app (i := 1) (se_tup (sa_cons (se_callO O__law_lead mS__law_lead tkF hr (by rfl) (sa_cons (se_frz (se_var (i := 3))) sa_nil)) (sa_cons (se_callO O__law_primitive mS__law_primitive tkF hr (by rfl) (sa_cons (se_frz (se_var (i := 3))) sa_nil)) sa_nil)))))
  sss_nil)))))
  (sss_one (ss_ret (se_var (i := 1))))))
theorem der__law_spans {P : Program} {w : World} {K : PySem.W.Frag} {mg : Str → Option Value} {base : Heap} (T : Tp P w K mg base) {S__law_cleared S__law_lead : FSpec} (mS__law_cleared : MonoF S__law_cleared) (mS__law_lead : MonoF S__law_lead) (O__law_cleared : Ok P w K mg base "_law_cleared" ["_law_row_here", "_law_place", "_law_other"] 3 S__law_cleared) (O__law_lead : Ok P w K mg base "_law_lead" ["_law_row_here"] 1 S__law_lead) {f : Addr} (cdv : Value) (A : Around) (outer : List Env) (s : Shared) (H : Hp) (E : XK) (hr : RoomG 3 (A.deeper (PyProof.Rows.envOfC "_law_spans" (defScope s__law_spans) s.heap.objs.size f cdv)))
    (σ₀ : L2.St) (h₀ : Hp) (xc : Addr → Value → Option Addr → Prop) (hN : Hp) : SSs (cxOf (L2.CX P w) P w K mg base ["_law_kept", "_law_row_here", "_law_rest", "_law_one"] "_law_spans" (defScope s__law_spans) f cdv A outer s H E) ⟨[], σ₀, h₀, xc, hN⟩ (fun cls d _ H => E cls d H) (defBody s__law_spans) (w__law_spans S__law_cleared S__law_lead) :=
  (sss_cons (ss_set (i := 2) (show 2 ∉ ([] : List Nat) from by decide) sc__law_spans.nd rfl (by first | exact .inl rfl | exact .inr rfl) (se_callTy vl_list (by rfl) T.z_list (by with_unfolding_all rfl) (sa_cons (se_var (i := 1)) sa_nil)))
  (sss_cons (ss_for poF rfl (si_it (se_var (i := 0))) (sg_name (i := 3) sc__law_spans.nd rfl (by first | exact .inl rfl | exact .inr rfl)) (show ∀ i ∈ ([3] : List Nat), i ∉ ([] : List Nat) from by decide)
  (sss_one (ss_set (i := 2) (show 2 ∉ ([] : List Nat) from by decide) sc__law_spans.nd rfl (by first | exact .inl rfl | exact .inr rfl) (se_callO O__law_cleared mS__law_cleared tkF hr (by rfl) (sa_cons (se_frz (se_var (i := 2))) (sa_cons (se_frz (se_ix vi_ix (se_var (i := 3)) se_int)) (sa_cons (se_frz (se_ix vi_ix (se_var (i := 3)) se_int)) sa_nil)))))))
  (sss_one (ss_ret (se_cmp (vr_lt hr.u0) (se_callO O__law_lead mS__law_lead tkF hr (by rfl) (sa_cons (se_frz (se_var (i := 2))) sa_nil)) se_int (by with_unfolding_all rfl))))))
theorem der_null_space {P : Program} {w : World} {K : PySem.W.Frag} {mg : Str → Option Value} {base : Heap} (T : Tp P w K mg base) {S_reduced S_lead_position S_common_multiple : FSpec} (mS_reduced : MonoF S_reduced) (mS_lead_position : MonoF S_lead_position) (mS_common_multiple : MonoF S_common_multiple) (O_reduced : Ok P w K mg base "reduced" ["rows", "width"] 4 S_reduced) (O_lead_position : Ok P w K mg base "lead_position" ["row"] 1 S_lead_position) (O_common_multiple : Ok P w K mg base "common_multiple" ["numbers"] 2 S_common_multiple) {f : Addr} (cdv : Value) (A : Around) (outer : List Env) (s : Shared) (H : Hp) (E : XK) (hr : RoomG 4 (A.deeper (PyProof.Rows.envOfC "null_space" (defScope s_null_space) s.heap.objs.size f cdv)))
    (σ₀ : L2.St) (h₀ : Hp) (xc : Addr → Value → Option Addr → Prop) (hN : Hp) : SSs (cxOf (L2.CX P w) P w K mg base ["rows", "width", "forms", "leads", "form", "scale", "lead", "solutions", "position", "solution"] "null_space" (defScope s_null_space) f cdv A outer s H E) ⟨[], σ₀, h₀, xc, hN⟩ (fun cls d _ H => E cls d H) (defBody s_null_space) (w_null_space S_reduced S_lead_position S_common_multiple) :=
  (sss_cons (ss_set (i := 2) (show 2 ∉ ([] : List Nat) from by decide) sc_null_space.nd rfl (by first | exact .inl rfl | exact .inr rfl) (se_callO O_reduced mS_reduced tkF hr (by rfl) (sa_cons (se_frz (se_var (i := 0))) (sa_cons (se_frz (se_var (i := 1))) sa_nil))))
  (sss_cons (ss_setLcV (own := [("form", 4)]) (i := 3) (show 3 ∉ ([] : List Nat) from by decide) rfl sc_null_space.nd rfl rfl (show BlkOk ["rows", "width", "forms", "leads", "form", "scale", "lead", "solutions", "position", "solution"] (defScope s_null_space) _ [("form", 4)] from ⟨rfl, by decide +kernel, by decide +kernel, by decide +kernel, by decide +kernel⟩) (si_it (se_var (i := 2))) (show ∀ i ∈ ([4] : List Nat), i ∉ ([] : List Nat) from by decide) (show ∀ i ∈ ([4] : List Nat), i ∈ ([4] : List Nat) from by decide) (fun _ _ _ _ _ => (sg_name (i := 4) sc_null_space.nd rfl (by first | exact .inl rfl | exact .inr rfl))) (fun _ _ _ _ _ => sts_nil) (fun _ _ _ _ _ => (se_callO O_lead_position mS_lead_position tk0 hr (by rfl) (sa_cons (se_frz (se_var (i := 4))) sa_nil))))
  (sss_cons (ss_set (i := 5) (show 5 ∉ ([] : List Nat) from by decide) sc_null_space.nd rfl (by first | exact .inl rfl | exact .inr rfl) (se_callO O_common_multiple mS_common_multiple tkF hr (by rfl) (sa_cons (se_frz (se_lcV (own := [("form", 4), ("lead", 6)]) rfl sc_null_space.nd (show BlkOk ["rows", "width", "forms", "leads", "form", "scale", "lead", "solutions", "position", "solution"] (defScope s_null_space) _ [("form", 4), ("lead", 6)] from ⟨rfl, by decide +kernel, by decide +kernel, by decide +kernel, by decide +kernel⟩) (si_zip (by rfl) T.z_zip (sa_cons (se_var (i := 2)) (sa_cons (se_var (i := 3)) sa_nil))) (show ∀ i ∈ ([4, 6] : List Nat), i ∉ ([] : List Nat) from by decide) (show ∀ i ∈ ([4, 6] : List Nat), i ∈ ([4, 6] : List Nat) from by decide) (fun _ _ _ _ _ => (sg_tup (is := [4, 6]) rfl (pgs_cons (pg_name (i := 4) sc_null_space.nd rfl (by first | exact .inl rfl | exact .inr rfl)) (pgs_cons (pg_name (i := 6) sc_null_space.nd rfl (by first | exact .inl rfl | exact .inr rfl)) pgs_nil)))) (fun _ _ _ _ _ => sts_nil) (fun _ _ _ _ _ => (se_ix vi_ix (se_var (i := 4)) (se_var (i := 6)))))) sa_nil)))
  (sss_cons (ss_set (i := 7) (show 7 ∉ ([] : List Nat) from by decide) sc_null_space.nd rfl (by first | exact .inl rfl | exact .inr rfl) (se_lst sa_nil))
  (sss_cons (ss_for poF rfl (si_rng1 (by rfl) T.z_range (sa_cons (se_var (i := 1)) sa_nil)) (sg_name (i := 8) sc_null_space.nd rfl (by first | exact .inl rfl | exact .inr rfl)) (show ∀ i ∈ ([8] : List Nat), i ∉ ([] : List Nat) from by decide)
  (sss_one (ss_if (st_cmp (vr_notIn hr.u65) (se_var (i := 8)) (se_var (i := 3)) (by with_unfolding_all rfl))
  (sss_cons (ss_set (i := 9) (show 9 ∉ ([] : List Nat) from by decide) sc_null_space.nd rfl (by first | exact .inl rfl | exact .inr rfl) (se_op vr_mulT (se_lst (sa_cons se_int sa_nil)) (se_var (i := 1))))
  (sss_cons (ss_setIx (i := 9) (se_var (i := 5)) (se_var (i := 8)))
  (sss_cons (ss_for poF rfl (si_zip (by rfl) T.z_zip (sa_cons (se_var (i := 2)) (sa_cons (se_var (i := 3)) sa_nil))) (sg_tup (is := [4, 6]) rfl (pgs_cons (pg_name (i := 4) sc_null_space.nd rfl (by first | exact .inl rfl | exact .inr rfl)) (pgs_cons (pg_name (i := 6) sc_null_space.nd rfl (by first | exact .inl rfl | exact .inr rfl)) pgs_nil))) (show ∀ i ∈ ([4, 6] : List Nat), i ∉ ([] : List Nat) from by decide)
  (sss_one (ss_setIx (i := 9) (se_op vr_mulT (se_neg (se_ix vi_ix (se_var (i := 4)) (se_var (i := 8)))) (se_op vr_div (se_var (i := 5)) (se_ix vi_ix (se_var (i := 4)) (se_var (i := 6))))) (se_var (i := 6)))))
  (sss_one (ss_app (i := 7) (se_callTy vl_tuple (by rfl) T.z_tuple (by with_unfolding_all rfl) (sa_cons (se_var (i := 9)) sa_nil)))))))
  sss_nil)))
  (sss_one (ss_ret (se_callO O_reduced mS_reduced tkF hr (by rfl) (sa_cons (se_frz (se_var (i := 7))) (sa_cons (se_frz (se_var (i := 1))) sa_nil))))))))))
theorem der_in_span {P : Program} {w : World} {K : PySem.W.Frag} {mg : Str → Option Value} {base : Heap} (T : Tp P w K mg base) {S_reduced : FSpec} (mS_reduced : MonoF S_reduced) (O_reduced : Ok P w K mg base "reduced" ["rows", "width"] 4 S_reduced) {f : Addr} (cdv : Value) (A : Around) (outer : List Env) (s : Shared) (H : Hp) (E : XK) (hr : RoomG 4 (A.deeper (PyProof.Rows.envOfC "in_span" (defScope s_in_span) s.heap.objs.size f cdv)))
    (σ₀ : L2.St) (h₀ : Hp) (xc : Addr → Value → Option Addr → Prop) (hN : Hp) : SSs (cxOf (L2.CX P w) P w K mg base ["rows", "row", "width"] "in_span" (defScope s_in_span) f cdv A outer s H E) ⟨[], σ₀, h₀, xc, hN⟩ (fun cls d _ H => E cls d H) (defBody s_in_span) (w_in_span S_reduced) :=
  (sss_cons (ss_set (i := 2) (show 2 ∉ ([] : List Nat) from by decide) sc_in_span.nd rfl (by first | exact .inl rfl | exact .inr rfl) (se_callB vl_len (by rfl) T.z_len (by with_unfolding_all rfl) (sa_cons (se_var (i := 1)) sa_nil)))
  (sss_one (ss_ret (se_cmp (vr_eq hr.u64) (se_callB vl_len (by rfl) T.z_len (by with_unfolding_all rfl) (sa_cons (se_callO O_reduced mS_reduced tkF hr (by rfl) (sa_cons (se_frz (se_op vr_add (se_var (i := 0)) (se_lst (sa_cons (se_var (i := 1)) sa_nil)))) (sa_cons (se_frz (se_var (i := 2))) sa_nil))) sa_nil)) (se_callB vl_len (by rfl) T.z_len (by with_unfolding_all rfl) (sa_cons (se_callO O_reduced mS_reduced tkF hr (by rfl) (sa_cons (se_frz (se_var (i := 0))) (sa_cons (se_frz (se_var (i := 2))) sa_nil))) sa_nil)) (by with_unfolding_all rfl)))))
theorem der__law_judged {P : Program} {w : World} {K : PySem.W.Frag} {mg : Str → Option Value} {base : Heap} (T : Tp P w K mg base) {S_in_span S__law_spans : FSpec} (mS_in_span : MonoF S_in_span) (mS__law_spans : MonoF S__law_spans) (O_in_span : Ok P w K mg base "in_span" ["rows", "row"] 5 S_in_span) (O__law_spans : Ok P w K mg base "_law_spans" ["_law_kept", "_law_row_here"] 4 S__law_spans) {f : Addr} (cdv : Value) (A : Around) (outer : List Env) (s : Shared) (H : Hp) (E : XK) (hr : RoomG 5 (A.deeper (PyProof.Rows.envOfC "_law_judged" (defScope s__law_judged) s.heap.objs.size f cdv)))
    (σ₀ : L2.St) (h₀ : Hp) (xc : Addr → Value → Option Addr → Prop) (hN : Hp) : SSs (cxOf (L2.CX P w) P w K mg base ["_law_rows_here", "_law_kept", "_law_tried_here", "_law_row_here", "_law_passed", "_law_answer"] "_law_judged" (defScope s__law_judged) f cdv A outer s H E) ⟨[], σ₀, h₀, xc, hN⟩ (fun cls d _ H => E cls d H) (defBody s__law_judged) (w__law_judged S_in_span S__law_spans) :=
  (sss_cons (ss_for poF rfl (si_it (se_var (i := 2))) (sg_name (i := 3) sc__law_judged.nd rfl (by first | exact .inl rfl | exact .inr rfl)) (show ∀ i ∈ ([3] : List Nat), i ∉ ([] : List Nat) from by decide)
  (sss_cons (ss_set (i := 4) (show 4 ∉ ([] : List Nat) from by decide) sc__law_judged.nd rfl (by first | exact .inl rfl | exact .inr rfl) (se_callTy vl_list (by rfl) T.z_list (by with_unfolding_all rfl) (sa_cons (se_var (i := 0)) sa_nil)))
  (sss_cons (ss_set (i := 5) (show 5 ∉ ([] : List Nat) from by decide) sc__law_judged.nd rfl (by first | exact .inl rfl | exact .inr rfl) (se_callO O_in_span mS_in_span tkF hr (by rfl) (sa_cons (se_frz (se_var (i := 4))) (sa_cons (se_frz (se_var (i := 3))) sa_nil))))
  (sss_cons (ss_if (st_cmp (vr_ne hr.u64) (se_var (i := 4)) (se_var (i := 0)) (by with_unfolding_all rfl))
  (sss_one (ss_ret se_bl))
  sss_nil)
  (sss_cons (ss_if (SPW.st (spw_and (st_tru (se_callO O__law_spans mS__law_spans tkF hr (by rfl) (sa_cons (se_frz (se_var (i := 1))) (sa_cons (se_frz (se_var (i := 3))) sa_nil)))) (spw_and1 (st_cmp vr_isNotB (se_var (i := 5)) se_bl (by with_unfolding_all rfl)))))
  (sss_one (ss_ret se_bl))
  sss_nil)
  (sss_one (ss_if (SPW.st (spw_and (st_not (st_tru (se_callO O__law_spans mS__law_spans tkF hr (by rfl) (sa_cons (se_frz (se_var (i := 1))) (sa_cons (se_frz (se_var (i := 3))) sa_nil))))) (spw_and1 (st_cmp vr_isNotB (se_var (i := 5)) se_bl (by with_unfolding_all rfl)))))
  (sss_one (ss_ret se_bl))
  sss_nil)))))))
  (sss_one (ss_ret se_bl)))
theorem der__law_back {P : Program} {w : World} {K : PySem.W.Frag} {mg : Str → Option Value} {base : Heap} (T : Tp P w K mg base) {S_null_space S__law_is_form S__law_lead S__law_spans S_in_span : FSpec} (mS_null_space : MonoF S_null_space) (mS__law_is_form : MonoF S__law_is_form) (mS__law_lead : MonoF S__law_lead) (mS__law_spans : MonoF S__law_spans) (mS_in_span : MonoF S_in_span) (O_null_space : Ok P w K mg base "null_space" ["rows", "width"] 5 S_null_space) (O__law_is_form : Ok P w K mg base "_law_is_form" ["_law_told", "_law_width_here"] 3 S__law_is_form) (O__law_lead : Ok P w K mg base "_law_lead" ["_law_row_here"] 1 S__law_lead) (O__law_spans : Ok P w K mg base "_law_spans" ["_law_kept", "_law_row_here"] 4 S__law_spans) (O_in_span : Ok P w K mg base "in_span" ["rows", "row"] 5 S_in_span) {f : Addr} (cdv : Value) (A : Around) (outer : List Env) (s : Shared) (H : Hp) (E : XK) (hr : RoomG 5 (A.deeper (PyProof.Rows.envOfC "_law_back" (defScope s__law_back) s.heap.objs.size f cdv)))
    (σ₀ : L2.St) (h₀ : Hp) (xc : Addr → Value → Option Addr → Prop) (hN : Hp) : SSs (cxOf (L2.CX P w) P w K mg base ["_law_rows_here", "_law_kept", "_law_told", "_law_width_here", "_law_row_here", "_law_entry", "_law_passed", "_law_answer", "_law_leads", "_law_one"] "_law_back" (defScope s__law_back) f cdv A outer s H E) ⟨[], σ₀, h₀, xc, hN⟩ (fun cls d _ H => E cls d H) (defBody s__law_back) (w__law_back S_null_space S__law_is_form S__law_lead S__law_spans S_in_span) :=
  (sss_cons (ss_if (st_cmp (vr_ge hr.u0) (se_callB (vl_maxL rfl) (by rfl) T.z_max (by with_unfolding_all rfl) (sa_cons (se_op vr_add (se_lst (sa_cons se_int sa_nil)) (se_lcV (own := [("_law_row_here", 4)]) rfl sc__law_back.nd (show BlkOk ["_law_rows_here", "_law_kept", "_law_told", "_law_width_here", "_law_row_here", "_law_entry", "_law_passed", "_law_answer", "_law_leads", "_law_one"] (defScope s__law_back) _ [("_law_row_here", 4)] from ⟨rfl, by decide +kernel, by decide +kernel, by decide +kernel, by decide +kernel⟩) (si_it (se_var (i := 2))) (show ∀ i ∈ ([4] : List Nat), i ∉ ([] : List Nat) from by decide) (show ∀ i ∈ ([4] : List Nat), i ∈ ([4] : List Nat) from by decide) (fun _ _ _ _ _ => (sg_name (i := 4) sc__law_back.nd rfl (by first | exact .inl rfl | exact .inr rfl))) (fun _ _ _ _ _ => sts_nil) (fun _ _ _ _ _ => (se_callB (vl_maxL rfl) (by rfl) T.z_max (by with_unfolding_all rfl) (sa_cons (se_lcV (own := [("_law_entry", 5)]) rfl sc__law_back.nd (show BlkOk ["_law_rows_here", "_law_kept", "_law_told", "_law_width_here", "_law_row_here", "_law_entry", "_law_passed", "_law_answer", "_law_leads", "_law_one"] _ _ [("_law_entry", 5)] from ⟨rfl, by decide +kernel, by decide +kernel, free_of (by with_unfolding_all rfl), by decide +kernel⟩) (si_it (se_var (i := 4))) (show ∀ i ∈ ([5] : List Nat), i ∉ ([] : List Nat) from by decide) (show ∀ i ∈ ([5] : List Nat), i ∈ ([5] : List Nat) from by decide) (fun _ _ _ _ _ => (sg_name (i := 5) sc__law_back.nd rfl (by first | exact .inl rfl | exact .inr rfl))) (fun _ _ _ _ _ => sts_nil) (fun _ _ _ _ _ => (se_callB vl_abs (by rfl) T.z_abs (by with_unfolding_all rfl) (sa_cons (se_var (i := 5)) sa_nil)))) sa_nil))))) sa_nil)) (se_op vr_pow se_int se_int) (by with_unfolding_all rfl))
  (sss_one (ss_ret se_bl))
  sss_nil)
  (sss_cons (ss_set (i := 6) (show 6 ∉ ([] : List Nat) from by decide) sc__law_back.nd rfl (by first | exact .inl rfl | exact .inr rfl) (se_callTy vl_list (by rfl) T.z_list (by with_unfolding_all rfl) (sa_cons (se_var (i := 2)) sa_nil)))
  (sss_cons (ss_set (i := 7) (show 7 ∉ ([] : List Nat) from by decide) sc__law_back.nd rfl (by first | exact .inl rfl | exact .inr rfl) (se_callO O_null_space mS_null_space tkF hr (by rfl) (sa_cons (se_frz (se_var (i := 6))) (sa_cons (se_frz (se_var (i := 3))) sa_nil))))
  (sss_cons (ss_if (SPW.st (spw_or (st_not (st_tru (se_callO O__law_is_form mS__law_is_form tkF hr (by rfl) (sa_cons (se_var (i := 7)) (sa_cons (se_frz (se_var (i := 3))) sa_nil))))) (spw_or (st_cmp (vr_ne hr.u64) (se_callB vl_len (by rfl) T.z_len (by with_unfolding_all rfl) (sa_cons (se_var (i := 7)) sa_nil)) (se_callB vl_len (by rfl) T.z_len (by with_unfolding_all rfl) (sa_cons (se_var (i := 1)) sa_nil)) (by with_unfolding_all rfl)) (spw_or1 (st_cmp (vr_ne hr.u64) (se_var (i := 6)) (se_var (i := 2)) (by with_unfolding_all rfl))))))
  (sss_one (ss_ret se_bl))
  sss_nil)
  (sss_cons (ss_set (i := 8) (show 8 ∉ ([] : List Nat) from by decide) sc__law_back.nd rfl (by first | exact .inl rfl | exact .inr rfl) (se_lcV (own := [("_law_one", 9)]) rfl sc__law_back.nd (show BlkOk ["_law_rows_here", "_law_kept", "_law_told", "_law_width_here", "_law_row_here", "_law_entry", "_law_passed", "_law_answer", "_law_leads", "_law_one"] (defScope s__law_back) _ [("_law_one", 9)] from ⟨rfl, by decide +kernel, by decide +kernel, by decide +kernel, by decide +kernel⟩) (si_it (se_var (i := 7))) (show ∀ i ∈ ([9] : List Nat), i ∉ ([] : List Nat) from by decide) (show ∀ i ∈ ([9] : List Nat), i ∈ ([9] : List Nat) from by decide) (fun _ _ _ _ _ => (sg_name (i := 9) sc__law_back.nd rfl (by first | exact .inl rfl | exact .inr rfl))) (fun _ _ _ _ _ => sts_nil) (fun _ _ _ _ _ => (se_tup (sa_cons (se_callO O__law_lead mS__law_lead tk0 hr (by rfl) (sa_cons (se_frz (se_var (i := 9))) sa_nil)) (sa_cons (se_var (i := 9)) sa_nil))))))
  (sss_cons (ss_if (st_not (st_tru (se_callB (vl_all rfl) (by rfl) T.z_all (by with_unfolding_all rfl) (sa_cons (se_lcV (own := [("_law_row_here", 4)]) rfl sc__law_back.nd (show BlkOk ["_law_rows_here", "_law_kept", "_law_told", "_law_width_here", "_law_row_here", "_law_entry", "_law_passed", "_law_answer", "_law_leads", "_law_one"] (defScope s__law_back) _ [("_law_row_here", 4)] from ⟨rfl, by decide +kernel, by decide +kernel, by decide +kernel, by decide +kernel⟩) (si_it (se_var (i := 0))) (show ∀ i ∈ ([4] : List Nat), i ∉ ([] : List Nat) from by decide) (show ∀ i ∈ ([4] : List Nat), i ∈ ([4] : List Nat) from by decide) (fun _ _ _ _ _ => (sg_name (i := 4) sc__law_back.nd rfl (by first | exact .inl rfl | exact .inr rfl))) (fun _ _ _ _ _ => sts_nil) (fun _ _ _ _ _ => (se_callO O__law_spans mS__law_spans tk0 hr (by rfl) (sa_cons (se_frz (se_var (i := 8))) (sa_cons (se_frz (se_var (i := 4))) sa_nil))))) sa_nil))))
  (sss_one (ss_ret se_bl))
  sss_nil)
  (sss_cons (ss_for poF rfl (si_it (se_sl (se_var (i := 2)) so_none (so_some se_int))) (sg_name (i := 4) sc__law_back.nd rfl (by first | exact .inl rfl | exact .inr rfl)) (show ∀ i ∈ ([4] : List Nat), i ∉ ([] : List Nat) from by decide)
  (sss_one (ss_if (st_cmp vr_isNotB (se_callO O_in_span mS_in_span tkF hr (by rfl) (sa_cons (se_frz (se_callTy vl_list (by rfl) T.z_list (by with_unfolding_all rfl) (sa_cons (se_var (i := 0)) sa_nil))) (sa_cons (se_frz (se_var (i := 4))) sa_nil))) se_bl (by with_unfolding_all rfl))
  (sss_one (ss_ret se_bl))
  sss_nil)))
  (sss_one (ss_ret se_bl)))))))))
theorem der_law {P : Program} {w : World} {K : PySem.W.Frag} {mg : Str → Option Value} {base : Heap} (T : Tp P w K mg base) {S__law_bag S__law_width S__law_rows S_null_space S__law_is_form S__law_echelon S__law_product S__law_tried S__law_judged S__law_back : FSpec} (mS__law_bag : MonoF S__law_bag) (mS__law_width : MonoF S__law_width) (mS__law_rows : MonoF S__law_rows) (mS_null_space : MonoF S_null_space) (mS__law_is_form : MonoF S__law_is_form) (mS__law_echelon : MonoF S__law_echelon) (mS__law_product : MonoF S__law_product) (mS__law_tried : MonoF S__law_tried) (mS__law_judged : MonoF S__law_judged) (mS__law_back : MonoF S__law_back) (O__law_bag : Ok P w K mg base "_law_bag" ["_law_script", "_law_k"] 1 S__law_bag) (O__law_width : Ok P w K mg base "_law_width" ["_law_bag_here"] 2 S__law_width) (O__law_rows : Ok P w K mg base "_law_rows" ["_law_script", "_law_bag_here", "_law_width_here"] 3 S__law_rows) (O_null_space : Ok P w K mg base "null_space" ["rows", "width"] 5 S_null_space) (O__law_is_form : Ok P w K mg base "_law_is_form" ["_law_told", "_law_width_here"] 3 S__law_is_form) (O__law_echelon : Ok P w K mg base "_law_echelon" ["_law_rows_here"] 4 S__law_echelon) (O__law_product : Ok P w K mg base "_law_product" ["_law_one", "_law_other"] 1 S__law_product) (O__law_tried : Ok P w K mg base "_law_tried" ["_law_bag_here", "_law_rows_here", "_law_width_here"] 3 S__law_tried) (O__law_judged : Ok P w K mg base "_law_judged" ["_law_rows_here", "_law_kept", "_law_tried_here"] 6 S__law_judged) (O__law_back : Ok P w K mg base "_law_back" ["_law_rows_here", "_law_kept", "_law_told", "_law_width_here"] 6 S__law_back) {f : Addr} (cdv : Value) (A : Around) (outer : List Env) (s : Shared) (H : Hp) (E : XK) (hr : RoomG 6 (A.deeper (PyProof.Rows.envOfC "law" (defScope s_law) s.heap.objs.size f cdv)))
    (σ₀ : L2.St) (h₀ : Hp) (xc : Addr → Value → Option Addr → Prop) (hN : Hp) : SSs (cxOf (L2.CX P w) P w K mg base ["_law_script", "_law_bag_here", "_law_width_here", "_law_rows_here", "_law_passed", "_law_answer", "_law_told", "_law_kept", "_law_row_here", "_law_one"] "law" (defScope s_law) f cdv A outer s H E) ⟨[], σ₀, h₀, xc, hN⟩ (fun cls d _ H => E cls d H) (defBody s_law) (w_law S__law_bag S__law_width S__law_rows S_null_space S__law_is_form S__law_echelon S__law_product S__law_tried S__law_judged S__law_back) :=
  (sss_cons (ss_set (i := 1) (show 1 ∉ ([] : List Nat) from by decide) sc_law.nd rfl (by first | exact .inl rfl | exact .inr rfl) (se_callO O__law_bag mS__law_bag tkF hr (by rfl) (sa_cons (se_frz (se_var (i := 0))) (sa_cons se_int sa_nil))))
  (sss_cons (ss_set (i := 2) (show 2 ∉ ([] : List Nat) from by decide) sc_law.nd rfl (by first | exact .inl rfl | exact .inr rfl) (se_callO O__law_width mS__law_width tkF hr (by rfl) (sa_cons (se_var (i := 1)) sa_nil)))
  (sss_cons (ss_set (i := 3) (show 3 ∉ ([] : List Nat) from by decide) sc_law.nd rfl (by first | exact .inl rfl | exact .inr rfl) (se_callO O__law_rows mS__law_rows tkF hr (by rfl) (sa_cons (se_frz (se_var (i := 0))) (sa_cons (se_var (i := 1)) (sa_cons (se_frz (se_var (i := 2))) sa_nil)))))
  (sss_cons (ss_set (i := 4) (show 4 ∉ ([] : List Nat) from by decide) sc_law.nd rfl (by first | exact .inl rfl | exact .inr rfl) (se_callTy vl_list (by rfl) T.z_list (by with_unfolding_all rfl) (sa_cons (se_var (i := 3)) sa_nil)))
  (sss_cons (ss_set (i := 5) (show 5 ∉ ([] : List Nat) from by decide) sc_law.nd rfl (by first | exact .inl rfl | exact .inr rfl) (se_callO O_null_space mS_null_space tkF hr (by rfl) (sa_cons (se_frz (se_var (i := 4))) (sa_cons (se_frz (se_var (i := 2))) sa_nil))))
  (sss_cons (ss_if (st_not (st_tru (se_callO O__law_is_form mS__law_is_form tkF hr (by rfl) (sa_cons (se_var (i := 5)) (sa_cons (se_frz (se_var (i := 2))) sa_nil)))))
  (sss_one (ss_ret se_bl))
  sss_nil)
  (sss_cons (ss_set (i := 6) (show 6 ∉ ([] : List Nat) from by decide) sc_law.nd rfl (by first | exact .inl rfl | exact .inr rfl) (se_callTy vl_list (by rfl) T.z_list (by with_unfolding_all rfl) (sa_cons (se_var (i := 5)) sa_nil)))
  (sss_cons (ss_app (i := 5) (se_callTy vl_tuple (by rfl) T.z_tuple (by with_unfolding_all rfl) (sa_cons (se_op vr_mulT (se_lst (sa_cons se_int sa_nil)) (se_var (i := 2))) sa_nil)))
  (sss_cons (ss_if (st_cmp (vr_ne hr.u64) (se_var (i := 4)) (se_var (i := 3)) (by with_unfolding_all rfl))
  (sss_one (ss_ret se_bl))
  sss_nil)
  (sss_cons (ss_set (i := 7) (show 7 ∉ ([] : List Nat) from by decide) sc_law.nd rfl (by first | exact .inl rfl | exact .inr rfl) (se_callO O__law_echelon mS__law_echelon tkF hr (by rfl) (sa_cons (se_frz (se_var (i := 3))) sa_nil)))
  (sss_cons (ss_if (st_cmp (vr_ne hr.u64) (se_op vr_add (se_callB vl_len (by rfl) T.z_len (by with_unfolding_all rfl) (sa_cons (se_var (i := 6)) sa_nil)) (se_callB vl_len (by rfl) T.z_len (by with_unfolding_all rfl) (sa_cons (se_var (i := 7)) sa_nil))) (se_var (i := 2)) (by with_unfolding_all rfl))
  (sss_one (ss_ret se_bl))
  sss_nil)
  (sss_cons (ss_for poF rfl (si_it (se_var (i := 3))) (sg_name (i := 8) sc_law.nd rfl (by first | exact .inl rfl | exact .inr rfl)) (show ∀ i ∈ ([8] : List Nat), i ∉ ([] : List Nat) from by decide)
  (sss_one (ss_if (st_not (st_tru (se_callB (vl_all rfl) (by rfl) T.z_all (by with_unfolding_all rfl) (sa_cons (se_lcV (own := [("_law_one", 9)]) rfl sc_law.nd (show BlkOk ["_law_script", "_law_bag_here", "_law_width_here", "_law_rows_here", "_law_passed", "_law_answer", "_law_told", "_law_kept", "_law_row_here", "_law_one"] (defScope s_law) _ [("_law_one", 9)] from ⟨rfl, by decide +kernel, by decide +kernel, by decide +kernel, by decide +kernel⟩) (si_it (se_var (i := 6))) (show ∀ i ∈ ([9] : List Nat), i ∉ ([] : List Nat) from by decide) (show ∀ i ∈ ([9] : List Nat), i ∈ ([9] : List Nat) from by decide) (fun _ _ _ _ _ => (sg_name (i := 9) sc_law.nd rfl (by first | exact .inl rfl | exact .inr rfl))) (fun _ _ _ _ _ => sts_nil) (fun _ _ _ _ _ => (se_cmp (vr_eq hr.u64) (se_callO O__law_product mS__law_product tk0 hr (by rfl) (sa_cons (se_frz (se_var (i := 9))) (sa_cons (se_frz (se_var (i := 8))) sa_nil))) se_int (by with_unfolding_all rfl)))) sa_nil))))
  (sss_one (ss_ret se_bl))
  sss_nil)))
  (sss_cons (ss_if (st_not (st_tru (se_callO O__law_judged mS__law_judged tkF hr (by rfl) (sa_cons (se_frz (se_var (i := 3))) (sa_cons (se_frz (se_var (i := 7))) (sa_cons (se_frz (se_callT O__law_tried mS__law_tried tkF hr (by rfl) (se_callO O__law_bag mS__law_bag tkF hr (by rfl) (sa_cons (se_frz (se_var (i := 0))) (sa_cons se_int sa_nil))) (sa_cons (se_frz (se_var (i := 3))) (sa_cons (se_frz (se_var (i := 2))) sa_nil)))) sa_nil))))))
  (sss_one (ss_ret se_bl))
  sss_nil)
  (sss_one (ss_ret (se_callO O__law_back mS__law_back tkF hr (by rfl) (sa_cons (se_frz (se_var (i := 3))) (sa_cons (se_frz (se_var (i := 7))) (sa_cons (se_frz (se_var (i := 6))) (sa_cons (se_frz (se_var (i := 2))) sa_nil))))))))))))))))))))
end LV
namespace LV
open PySem PySem.Spec L2
theorem ok_common_divisor {P : Program} {w : World} {K : PySem.W.Frag} {mg : Str → Option Value} {base : Heap} (T : Tp P w K mg base) : Ok P w K mg base "common_divisor" ["one", "other"] 1 S_common_divisor :=
  let ⟨_, _, D⟩ := T.d_common_divisor
  ok_mk [] D sc_common_divisor kp_common_divisor (der_common_divisor T )
theorem ok_lead_position {P : Program} {w : World} {K : PySem.W.Frag} {mg : Str → Option Value} {base : Heap} (T : Tp P w K mg base) : Ok P w K mg base "lead_position" ["row"] 1 S_lead_position :=
  let ⟨_, _, D⟩ := T.d_lead_position
  ok_mk [] D sc_lead_position kp_lead_position (der_lead_position T )
theorem ok_index_with {P : Program} {w : World} {K : PySem.W.Frag} {mg : Str → Option Value} {base : Heap} (T : Tp P w K mg base) : Ok P w K mg base "index_with" ["rows", "position"] 1 S_index_with :=
  let ⟨_, _, D⟩ := T.d_index_with
  ok_mk [] D sc_index_with kp_index_with (der_index_with T )
theorem ok__law_bag {P : Program} {w : World} {K : PySem.W.Frag} {mg : Str → Option Value} {base : Heap} (T : Tp P w K mg base) : Ok P w K mg base "_law_bag" ["_law_script", "_law_k"] 1 S__law_bag :=
  let ⟨_, _, D⟩ := T.d__law_bag
  ok_mk [] D sc__law_bag kp__law_bag (der__law_bag T )
theorem ok__law_take {P : Program} {w : World} {K : PySem.W.Frag} {mg : Str → Option Value} {base : Heap} (T : Tp P w K mg base) : Ok P w K mg base "_law_take" ["_law_bag_here", "_law_size"] 1 S__law_take :=
  let ⟨_, _, D⟩ := T.d__law_take
  ok_mk [0] D sc__law_take kp__law_take (der__law_take T )
theorem ok__law_is_integer {P : Program} {w : World} {K : PySem.W.Frag} {mg : Str → Option Value} {base : Heap} (T : Tp P w K mg base) : Ok P w K mg base "_law_is_integer" ["_law_value"] 1 S__law_is_integer :=
  let ⟨_, _, D⟩ := T.d__law_is_integer
  ok_mk [] D sc__law_is_integer kp__law_is_integer (der__law_is_integer T )
theorem ok__law_divisor {P : Program} {w : World} {K : PySem.W.Frag} {mg : Str → Option Value} {base : Heap} (T : Tp P w K mg base) : Ok P w K mg base "_law_divisor" ["_law_row_here"] 1 S__law_divisor :=
  let ⟨_, _, D⟩ := T.d__law_divisor
  ok_mk [] D sc__law_divisor kp__law_divisor (der__law_divisor T )
theorem ok__law_lead {P : Program} {w : World} {K : PySem.W.Frag} {mg : Str → Option Value} {base : Heap} (T : Tp P w K mg base) : Ok P w K mg base "_law_lead" ["_law_row_here"] 1 S__law_lead :=
  let ⟨_, _, D⟩ := T.d__law_lead
  ok_mk [] D sc__law_lead kp__law_lead (der__law_lead T )
theorem ok__law_sum {P : Program} {w : World} {K : PySem.W.Frag} {mg : Str → Option Value} {base : Heap} (T : Tp P w K mg base) : Ok P w K mg base "_law_sum" ["_law_one", "_law_factor", "_law_other", "_law_second"] 1 S__law_sum :=
  let ⟨_, _, D⟩ := T.d__law_sum
  ok_mk [] D sc__law_sum kp__law_sum (der__law_sum T )
theorem ok__law_product {P : Program} {w : World} {K : PySem.W.Frag} {mg : Str → Option Value} {base : Heap} (T : Tp P w K mg base) : Ok P w K mg base "_law_product" ["_law_one", "_law_other"] 1 S__law_product :=
  let ⟨_, _, D⟩ := T.d__law_product
  ok_mk [] D sc__law_product kp__law_product (der__law_product T )
theorem ok_common_multiple {P : Program} {w : World} {K : PySem.W.Frag} {mg : Str → Option Value} {base : Heap} (T : Tp P w K mg base) : Ok P w K mg base "common_multiple" ["numbers"] 2 S_common_multiple :=
  let ⟨_, _, D⟩ := T.d_common_multiple
  ok_mk [] D sc_common_multiple kp_common_multiple (der_common_multiple T mS_common_divisor (ok_common_divisor T))
theorem ok_simplified {P : Program} {w : World} {K : PySem.W.Frag} {mg : Str → Option Value} {base : Heap} (T : Tp P w K mg base) : Ok P w K mg base "simplified" ["row"] 2 S_simplified :=
  let ⟨_, _, D⟩ := T.d_simplified
  ok_mk [] D sc_simplified kp_simplified (der_simplified T mS_common_divisor mS_lead_position (ok_common_divisor T) (ok_lead_position T))
theorem ok__law_primitive {P : Program} {w : World} {K : PySem.W.Frag} {mg : Str → Option Value} {base : Heap} (T : Tp P w K mg base) : Ok P w K mg base "_law_primitive" ["_law_row_here"] 2 S__law_primitive :=
  let ⟨_, _, D⟩ := T.d__law_primitive
  ok_mk [] D sc__law_primitive kp__law_primitive (der__law_primitive T mS__law_divisor (ok__law_divisor T))
theorem ok__law_is_row {P : Program} {w : World} {K : PySem.W.Frag} {mg : Str → Option Value} {base : Heap} (T : Tp P w K mg base) : Ok P w K mg base "_law_is_row" ["_law_row_here", "_law_width_here"] 2 S__law_is_row :=
  let ⟨_, _, D⟩ := T.d__law_is_row
  ok_mk [] D sc__law_is_row kp__law_is_row (der__law_is_row T mS__law_is_integer (ok__law_is_integer T))
theorem ok__law_row {P : Program} {w : World} {K : PySem.W.Frag} {mg : Str → Option Value} {base : Heap} (T : Tp P w K mg base) : Ok P w K mg base "_law_row" ["_law_bag_here", "_law_width_here", "_law_rows_here"] 2 S__law_row :=
  let ⟨_, _, D⟩ := T.d__law_row
  ok_mk [0, 2] D sc__law_row kp__law_row (der__law_row T mS__law_take mS__law_sum (ok__law_take T) (ok__law_sum T))
theorem ok__law_width {P : Program} {w : World} {K : PySem.W.Frag} {mg : Str → Option Value} {base : Heap} (T : Tp P w K mg base) : Ok P w K mg base "_law_width" ["_law_bag_here"] 2 S__law_width :=
  let ⟨_, _, D⟩ := T.d__law_width
  ok_mk [0] D sc__law_width kp__law_width (der__law_width T mS__law_take (ok__law_take T))
theorem ok_cleared {P : Program} {w : World} {K : PySem.W.Frag} {mg : Str → Option Value} {base : Heap} (T : Tp P w K mg base) : Ok P w K mg base "cleared" ["row", "pivot", "position"] 3 S_cleared :=
  let ⟨_, _, D⟩ := T.d_cleared
  ok_mk [] D sc_cleared kp_cleared (der_cleared T mS_simplified (ok_simplified T))
theorem ok__law_cleared {P : Program} {w : World} {K : PySem.W.Frag} {mg : Str → Option Value} {base : Heap} (T : Tp P w K mg base) : Ok P w K mg base "_law_cleared" ["_law_row_here", "_law_place", "_law_other"] 3 S__law_cleared :=
  let ⟨_, _, D⟩ := T.d__law_cleared
  ok_mk [] D sc__law_cleared kp__law_cleared (der__law_cleared T mS__law_primitive (ok__law_primitive T))
theorem ok__law_is_form {P : Program} {w : World} {K : PySem.W.Frag} {mg : Str → Option Value} {base : Heap} (T : Tp P w K mg base) : Ok P w K mg base "_law_is_form" ["_law_told", "_law_width_here"] 3 S__law_is_form :=
  let ⟨_, _, D⟩ := T.d__law_is_form
  ok_mk [0] D sc__law_is_form kp__law_is_form (der__law_is_form T mS__law_is_row mS__law_lead mS__law_divisor (ok__law_is_row T) (ok__law_lead T) (ok__law_divisor T))
theorem ok__law_rows {P : Program} {w : World} {K : PySem.W.Frag} {mg : Str → Option Value} {base : Heap} (T : Tp P w K mg base) : Ok P w K mg base "_law_rows" ["_law_script", "_law_bag_here", "_law_width_here"] 3 S__law_rows :=
  let ⟨_, _, D⟩ := T.d__law_rows
  ok_mk [1] D sc__law_rows kp__law_rows (der__law_rows T mS__law_take mS__law_row mS__law_bag (ok__law_take T) (ok__law_row T) (ok__law_bag T))
theorem ok__law_tried {P : Program} {w : World} {K : PySem.W.Frag} {mg : Str → Option Value} {base : Heap} (T : Tp P w K mg base) : Ok P w K mg base "_law_tried" ["_law_bag_here", "_law_rows_here", "_law_width_here"] 3 S__law_tried :=
  let ⟨_, _, D⟩ := T.d__law_tried
  ok_mk [0] D sc__law_tried kp__law_tried (der__law_tried T mS__law_take mS__law_sum mS__law_primitive (ok__law_take T) (ok__law_sum T) (ok__law_primitive T))
theorem ok_reduced {P : Program} {w : World} {K : PySem.W.Frag} {mg : Str → Option Value} {base : Heap} (T : Tp P w K mg base) : Ok P w K mg base "reduced" ["rows", "width"] 4 S_reduced :=
  let ⟨_, _, D⟩ := T.d_reduced
  ok_mk [] D sc_reduced kp_reduced (der_reduced T mS_simplified mS_index_with mS_cleared (ok_simplified T) (ok_index_with T) (ok_cleared T))
theorem ok__law_echelon {P : Program} {w : World} {K : PySem.W.Frag} {mg : Str → Option Value} {base : Heap} (T : Tp P w K mg base) : Ok P w K mg base "_law_echelon" ["_law_rows_here"] 4 S__law_echelon :=
  let ⟨_, _, D⟩ := T.d__law_echelon
  ok_mk [] D sc__law_echelon kp__law_echelon (der__law_echelon T mS__law_cleared mS__law_lead mS__law_primitive (ok__law_cleared T) (ok__law_lead T) (ok__law_primitive T))
theorem ok__law_spans {P : Program} {w : World} {K : PySem.W.Frag} {mg : Str → Option Value} {base : Heap} (T : Tp P w K mg base) : Ok P w K mg base "_law_spans" ["_law_kept", "_law_row_here"] 4 S__law_spans :=
  let ⟨_, _, D⟩ := T.d__law_spans
  ok_mk [] D sc__law_spans kp__law_spans (der__law_spans T mS__law_cleared mS__law_lead (ok__law_cleared T) (ok__law_lead T))
theorem ok_null_space {P : Program} {w : World} {K : PySem.W.Frag} {mg : Str → Option Value} {base : Heap} (T : Tp P w K mg base) : Ok P w K mg base "null_space" ["rows", "width"] 5 S_null_space :=
  let ⟨_, _, D⟩ := T.d_null_space
  ok_mk [] D sc_null_space kp_null_space (der_null_space T mS_reduced mS_lead_position mS_common_multiple (ok_reduced T) (ok_lead_position T) (ok_common_multiple T))
theorem ok_in_span {P : Program} {w : World} {K : PySem.W.Frag} {mg : Str → Option Value} {base : Heap} (T : Tp P w K mg base) : Ok P w K mg base "in_span" ["rows", "row"] 5 S_in_span :=
  let ⟨_, _, D⟩ := T.d_in_span
  ok_mk [] D sc_in_span kp_in_span (der_in_span T mS_reduced (ok_reduced T))
theorem ok__law_judged {P : Program} {w : World} {K : PySem.W.Frag} {mg : Str → Option Value} {base : Heap} (T : Tp P w K mg base) : Ok P w K mg base "_law_judged" ["_law_rows_here", "_law_kept", "_law_tried_here"] 6 S__law_judged :=
  let ⟨_, _, D⟩ := T.d__law_judged
  ok_mk [] D sc__law_judged kp__law_judged (der__law_judged T mS_in_span mS__law_spans (ok_in_span T) (ok__law_spans T))
theorem ok__law_back {P : Program} {w : World} {K : PySem.W.Frag} {mg : Str → Option Value} {base : Heap} (T : Tp P w K mg base) : Ok P w K mg base "_law_back" ["_law_rows_here", "_law_kept", "_law_told", "_law_width_here"] 6 S__law_back :=
  let ⟨_, _, D⟩ := T.d__law_back
  ok_mk [] D sc__law_back kp__law_back (der__law_back T mS_null_space mS__law_is_form mS__law_lead mS__law_spans mS_in_span (ok_null_space T) (ok__law_is_form T) (ok__law_lead T) (ok__law_spans T) (ok_in_span T))
end LV
set_option maxHeartbeats 1000000
namespace LV
open PySem PySem.Spec PySem.W L2
end LV
open PySem PySem.W PyProof.Rows
local macro_rules | `(tactic| kernel_rfl) => `(tactic| (with_reducible refine LV.map3 ?e1 ?e2 ?e3; (case e1 => exact LV.hd_e1 _ _); (case e2 => refine LV.seen9q (q' := LV.hdQ) (Xf := LV.hdF) ?hq (LV.hd_a1 _ _) (LV.hd_a2 _ _) (LV.hd_a3 _ _) (LV.hd_a4 _ _) (LV.hd_a5 _ _) (LV.hd_a6 _ _) (LV.hd_a7 _ _) (LV.hd_a8 _ _) (LV.hd_a9 _ _); (case hq => kernel_rfl)); (case e3 => exact LV.hd_e3 _ _)))
set_option maxHeartbeats 0 in
theorem PySem.Challenge.cw_lampthrong_k31_whole_null_space_holds : PySem.Challenge.rw_lampthrong_k31_whole_null_space.Holds := by
  w_on; o_law; o_headL (PySem.W.kHook LV.hdry.heap_1 LV.hdA (fun _ => by kernel_rfl)); (case hw => w_witness2)
  k_fill
  refine LV.walk_lv (l := PySem.Challenge.rw_lampthrong_k31_whole_null_space) (n := 63) (k := 7) (x := "_law_script") rfl (by decide) rfl ⟨⟨rfl, by decide, by decide⟩, rfl⟩ (fun w h Y => PySem.W.kIn_of Y) ?F
  case F =>
    intro w mg fa h KX GG hmg
    have T : ∀ base : Heap, LV.Tp PySem.Challenge.pw_lampthrong_k31_whole_null_space w _ mg base := fun base => by
      refine ⟨?_, ?_, ?_, ?_, ?_, ?_, ?_, ?_, ?_, ?_, ?_, ?_, ?_, ?_, ?_, ?_, ?_, ?_, ?_, ?_, ?_, ?_, ?_, ?_, ?_, ?_, ?_, ?_, ?_, ?_, ?_, ?_, ?_, ?_, ?_, ?_, ?_, ?_, ?_, ?_, ?_, ?_, ?_⟩
      · refine' LV.dat_mk KX GG ?a ?l ?c ?k ?b; (case a => k_is); (case l => k_is); (case c => k_is); (case k => k_is); (case b => exact fun _ _ _ _ _ _ us hl => match us, hl with | [_, _], _ => rfl)
      · refine' LV.dat_mk KX GG ?a ?l ?c ?k ?b; (case a => k_is); (case l => k_is); (case c => k_is); (case k => k_is); (case b => exact fun _ _ _ _ _ _ us hl => match us, hl with | [_], _ => rfl)
      · refine' LV.dat_mk KX GG ?a ?l ?c ?k ?b; (case a => k_is); (case l => k_is); (case c => k_is); (case k => k_is); (case b => exact fun _ _ _ _ _ _ us hl => match us, hl with | [_, _], _ => rfl)
      · refine' LV.dat_mk KX GG ?a ?l ?c ?k ?b; (case a => k_is); (case l => k_is); (case c => k_is); (case k => k_is); (case b => exact fun _ _ _ _ _ _ us hl => match us, hl with | [_, _], _ => rfl)
      · refine' LV.dat_mk KX GG ?a ?l ?c ?k ?b; (case a => k_is); (case l => k_is); (case c => k_is); (case k => k_is); (case b => exact fun _ _ _ _ _ _ us hl => match us, hl with | [_, _], _ => rfl)
      · refine' LV.dat_mk KX GG ?a ?l ?c ?k ?b; (case a => k_is); (case l => k_is); (case c => k_is); (case k => k_is); (case b => exact fun _ _ _ _ _ _ us hl => match us, hl with | [_], _ => rfl)
      · refine' LV.dat_mk KX GG ?a ?l ?c ?k ?b; (case a => k_is); (case l => k_is); (case c => k_is); (case k => k_is); (case b => exact fun _ _ _ _ _ _ us hl => match us, hl with | [_], _ => rfl)
      · refine' LV.dat_mk KX GG ?a ?l ?c ?k ?b; (case a => k_is); (case l => k_is); (case c => k_is); (case k => k_is); (case b => exact fun _ _ _ _ _ _ us hl => match us, hl with | [_], _ => rfl)
      · refine' LV.dat_mk KX GG ?a ?l ?c ?k ?b; (case a => k_is); (case l => k_is); (case c => k_is); (case k => k_is); (case b => exact fun _ _ _ _ _ _ us hl => match us, hl with | [_, _, _, _], _ => rfl)
      · refine' LV.dat_mk KX GG ?a ?l ?c ?k ?b; (case a => k_is); (case l => k_is); (case c => k_is); (case k => k_is); (case b => exact fun _ _ _ _ _ _ us hl => match us, hl with | [_, _], _ => rfl)
      · refine' LV.dat_mk KX GG ?a ?l ?c ?k ?b; (case a => k_is); (case l => k_is); (case c => k_is); (case k => k_is); (case b => exact fun _ _ _ _ _ _ us hl => match us, hl with | [_], _ => rfl)
      · refine' LV.dat_mk KX GG ?a ?l ?c ?k ?b; (case a => k_is); (case l => k_is); (case c => k_is); (case k => k_is); (case b => exact fun _ _ _ _ _ _ us hl => match us, hl with | [_], _ => rfl)
      · refine' LV.dat_mk KX GG ?a ?l ?c ?k ?b; (case a => k_is); (case l => k_is); (case c => k_is); (case k => k_is); (case b => exact fun _ _ _ _ _ _ us hl => match us, hl with | [_], _ => rfl)
      · refine' LV.dat_mk KX GG ?a ?l ?c ?k ?b; (case a => k_is); (case l => k_is); (case c => k_is); (case k => k_is); (case b => exact fun _ _ _ _ _ _ us hl => match us, hl with | [_, _], _ => rfl)
      · refine' LV.dat_mk KX GG ?a ?l ?c ?k ?b; (case a => k_is); (case l => k_is); (case c => k_is); (case k => k_is); (case b => exact fun _ _ _ _ _ _ us hl => match us, hl with | [_, _, _], _ => rfl)
      · refine' LV.dat_mk KX GG ?a ?l ?c ?k ?b; (case a => k_is); (case l => k_is); (case c => k_is); (case k => k_is); (case b => exact fun _ _ _ _ _ _ us hl => match us, hl with | [_], _ => rfl)
      · refine' LV.dat_mk KX GG ?a ?l ?c ?k ?b; (case a => k_is); (case l => k_is); (case c => k_is); (case k => k_is); (case b => exact fun _ _ _ _ _ _ us hl => match us, hl with | [_, _, _], _ => rfl)
      · refine' LV.dat_mk KX GG ?a ?l ?c ?k ?b; (case a => k_is); (case l => k_is); (case c => k_is); (case k => k_is); (case b => exact fun _ _ _ _ _ _ us hl => match us, hl with | [_, _, _], _ => rfl)
      · refine' LV.dat_mk KX GG ?a ?l ?c ?k ?b; (case a => k_is); (case l => k_is); (case c => k_is); (case k => k_is); (case b => exact fun _ _ _ _ _ _ us hl => match us, hl with | [_, _], _ => rfl)
      · refine' LV.dat_mk KX GG ?a ?l ?c ?k ?b; (case a => k_is); (case l => k_is); (case c => k_is); (case k => k_is); (case b => exact fun _ _ _ _ _ _ us hl => match us, hl with | [_, _, _], _ => rfl)
      · refine' LV.dat_mk KX GG ?a ?l ?c ?k ?b; (case a => k_is); (case l => k_is); (case c => k_is); (case k => k_is); (case b => exact fun _ _ _ _ _ _ us hl => match us, hl with | [_, _, _], _ => rfl)
      · refine' LV.dat_mk KX GG ?a ?l ?c ?k ?b; (case a => k_is); (case l => k_is); (case c => k_is); (case k => k_is); (case b => exact fun _ _ _ _ _ _ us hl => match us, hl with | [_, _], _ => rfl)
      · refine' LV.dat_mk KX GG ?a ?l ?c ?k ?b; (case a => k_is); (case l => k_is); (case c => k_is); (case k => k_is); (case b => exact fun _ _ _ _ _ _ us hl => match us, hl with | [_], _ => rfl)
      · refine' LV.dat_mk KX GG ?a ?l ?c ?k ?b; (case a => k_is); (case l => k_is); (case c => k_is); (case k => k_is); (case b => exact fun _ _ _ _ _ _ us hl => match us, hl with | [_, _], _ => rfl)
      · refine' LV.dat_mk KX GG ?a ?l ?c ?k ?b; (case a => k_is); (case l => k_is); (case c => k_is); (case k => k_is); (case b => exact fun _ _ _ _ _ _ us hl => match us, hl with | [_, _], _ => rfl)
      · refine' LV.dat_mk KX GG ?a ?l ?c ?k ?b; (case a => k_is); (case l => k_is); (case c => k_is); (case k => k_is); (case b => exact fun _ _ _ _ _ _ us hl => match us, hl with | [_, _], _ => rfl)
      · refine' LV.dat_mk KX GG ?a ?l ?c ?k ?b; (case a => k_is); (case l => k_is); (case c => k_is); (case k => k_is); (case b => exact fun _ _ _ _ _ _ us hl => match us, hl with | [_, _, _], _ => rfl)
      · refine' LV.dat_mk KX GG ?a ?l ?c ?k ?b; (case a => k_is); (case l => k_is); (case c => k_is); (case k => k_is); (case b => exact fun _ _ _ _ _ _ us hl => match us, hl with | [_, _, _, _], _ => rfl)
      · refine' LV.dat_mk KX GG ?a ?l ?c ?k ?b; (case a => k_is); (case l => k_is); (case c => k_is); (case k => k_is); (case b => exact fun _ _ _ _ _ _ us hl => match us, hl with | [_], _ => rfl)
      · refine' PySem.W.mg_none_of KX GG ?_; k_is
      · refine' PySem.W.mg_none_of KX GG ?_; k_is
      · refine' PySem.W.mg_none_of KX GG ?_; k_is
      · refine' PySem.W.mg_none_of KX GG ?_; k_is
      · refine' PySem.W.mg_none_of KX GG ?_; k_is
      · refine' PySem.W.mg_none_of KX GG ?_; k_is
      · refine' PySem.W.mg_none_of KX GG ?_; k_is
      · refine' PySem.W.mg_none_of KX GG ?_; k_is
      · refine' PySem.W.mg_none_of KX GG ?_; k_is
      · refine' PySem.W.mg_none_of KX GG ?_; k_is
      · refine' PySem.W.mg_none_of KX GG ?_; k_is
      · refine' PySem.W.mg_none_of KX GG ?_; k_is
      · refine' PySem.W.mg_none_of KX GG ?_; k_is
      · refine' PySem.W.mg_none_of KX GG ?_; k_is
    exact LV.law_at hmg (T h).d_law (fun _ _ _ _ _ _ us hl => match us, hl with | [_], _ => rfl) fun base f fd D => LV.fnG_mk [] D LV.sc_law LV.kp_law (LV.der_law (T base) LV.mS__law_bag LV.mS__law_width LV.mS__law_rows LV.mS_null_space LV.mS__law_is_form LV.mS__law_echelon LV.mS__law_product LV.mS__law_tried LV.mS__law_judged LV.mS__law_back (LV.ok__law_bag (T base)) (LV.ok__law_width (T base)) (LV.ok__law_rows (T base)) (LV.ok_null_space (T base)) (LV.ok__law_is_form (T base)) (LV.ok__law_echelon (T base)) (LV.ok__law_product (T base)) (LV.ok__law_tried (T base)) (LV.ok__law_judged (T base)) (LV.ok__law_back (T base)))
