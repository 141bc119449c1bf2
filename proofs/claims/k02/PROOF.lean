import PyProof.Rows.All
import HandS.ForMost
import HandS.Exc
import HandS.ExcOwn
import HandS.ExcField
import HandS.ExcInit
import KE.KeyNested
import HandS.TupAny
import HandS.Text
import HandS.Iter
import HandS.Zip
import HandS.Rev
import HandS.Comp
import HandS.WordsExc
import KE.KExcSuper
import HandS.Words
import HandS.Deep
import HandS.TupLe
import HandS.TupMul
import HandS.IsInst
import HandS.WideBits
import HandS.Style
import HandS.EndBits
import OpenK.AllK
import Wide.All
import Wide.FinOn
import KE.OsRunLaw
import HandS.TupSets
import PyProof.ReprRoads
import PyProof.CallFns
import PyProof.ListMulRoad
import PyProof.FactsAll.tuple_2
import PyProof.P3Eq
import PyProof.NeData
import HandS.Conv
import KE.SortKeyHeap
import HandS.SortKw
import HandS.Star
import KE.GoesMore
import HandS.ClsMeth
import HandS.Property
import HandS.SortInts
import HandS.Set
import HandS.SetFor
import HandS.More
import HandS.ExcIs
import KE.KExcIs
import HandS.FStr
import HandS.RaiseMore
import PyProof.StrBlock2
import KE.KSuper
import HandS.MakeKwOnly
import HandS.Dict
import KE.KDictCopyH
import PyProof.NsCount
import KE.KTupSum
import HandS.List
import HandS.GenList
import PyProof.LongRange
import PyProof.ReprLen
import PyProof.FitsInt
import PyProof.Rows.ReprOcc
import PyProof.StrLawsTight
import PyProof.StrLawsJoin
import HandS.Defaults
import PySem.Challenge.RW_lampthrong_k02_rows_under
set_option Elab.async false
set_option linter.all false
set_option maxRecDepth 100000
namespace LV
open PySem PySem.Spec L2
inductive D where
  | non | bl (b : Bool) | int (i : Int) | str (s : Str)
  | tup (xs : List D) | lst (xs : List D)
  | dct (ks vs : List D)
  | ins (C : Str) (ks : List Str) (vs : List D)
  /-- the law's script: a locked list of ints -/
  | scr (ns : List Int)
  /-- an own class -/
  | cls (C : Str)
  /-- whatever stands at a -/
  | ptr (a : Addr)
  /-- a tuple of which it is known that it has no attributes of its own -/
  | tpn (xs : List D)
  /-- an error of an own class that is held as a value -/
  | exn (C : Str) (ks : List Str) (vs : List D)
  deriving Inhabited
/-- an item of an owned list that owns some of its items: data, a list of one's own at q, a dict of one's own at q -/
inductive NI where
  | d (x : D)
  | l (q : Addr) (ds : List D)
  | t (q : Addr) (ks vs : List D)
def NI.dt : NI → D
  | .d x => x
  | .l _ ds => .lst ds
  | .t _ ks vs => .dct ks vs
def innL : List NI → List Addr
  | [] => []
  | .d _ :: xs => innL xs
  | .l q _ :: xs => q :: innL xs
  | .t q _ _ :: xs => q :: innL xs
/-- an owned object's content -/
inductive O where
  | lst (xs : List D)
  | dct (ks vs : List D)
  | ins (C : Str) (ks : List Str) (vs : List D)
  | nst (xs : List NI)
def O.d : O → D
  | .lst xs => .lst xs
  | .dct ks vs => .dct ks vs
  | .ins C ks vs => .ins C ks vs
  | .nst xs => .lst (xs.map NI.dt)
/-- what stands within it and is owned, too -/
def O.inn : O → List Addr
  | .nst xs => innL xs
  | _ => []
/-- p, which holds o, or what stands within -/
def Has (p : Addr) (o : O) (b : Addr) : Prop := b = p ∨ b ∈ o.inn
theorem Has.self {p : Addr} {o : O} : Has p o p := .inl rfl
theorem has1 {P : Addr → Prop} {p : Addr} {o : O} (hi : o.inn = []) (h : P p) : ∀ b, Has p o b → P b := fun b hb => by
  rcases hb with rfl | hb
  · exact h
  · rw [hi] at hb; cases hb
/-- what a slot holds -/
inductive Val where
  | fz (d : D)
  | ow (o : O)
  | ex (a : Addr) (C : Str) (ks : List Str) (vs : List D)
abbrev En := List (Option Val)
/-- an expression's value: data, a new owned object, or the object that slot i owns -/
inductive Rv where
  | fz (d : D)
  | ow (o : O)
  | sl (i : Nat)
/-- an exception in the air: its class, its fields -/
structure Xn where
  C : Str
  ks : List Str
  vs : List D
structure Md where
  K : PySem.W.Frag
  mg : Str → Option Value
  w : World
def kD : Key → D
  | .inl i => .int i
  | .inr x => .str x
mutual
def nkD : NestedKey → D
  | .none => .non
  | .num i => .int i
  | .text x => .str x
  | .tup ks => .tup (nkDs ks)
def nkDs : List NestedKey → List D
  | [] => []
  | k :: ks => nkD k :: nkDs ks
end
def NDO (w : World) (a : Addr) (xs : List (NestedKey × Addr × Value)) : HO := .ext fun h => (a == sysModules) = false ∧ xs.length ≤ sizeLine ∧ (xs.map (·.1)).Nodup ∧ ∃ o es ep, h.get? a = some o ∧ o.ExactDict ∧ o.data = .dict es ep ∧ es.toList = xs.map fun x => ⟨x.1.hash w, .ref x.2.1, x.2.2⟩
mutual
inductive Rep (M : Md) (F : Hp) : V → D → Prop
  | non : Rep M F .non .non
  | bl (b) : Rep M F (.bl b) (.bl b)
  | int (i) : Rep M F (.int i) (.int i)
  | str (s) : Rep M F (.str s) (.str s)
  | tup {a xs ds} : SqT M.K F a xs → RepL M F xs ds → Rep M F (.ref a) (.tup ds)
  | lst {a xs ds} : F a = some (.lst xs) → RepL M F xs ds → Rep M F (.ref a) (.lst ds)
  | scr {a ns} : SqL M.K F a (ns.map V.int) → Rep M F (.ref a) (.scr ns)
  | dK {a} {kv : List (Key × V)} {vs ds} : F a = some (.dK kv) → kv.map (·.2) = vs → RepL M F vs ds → Rep M F (.ref a) (.dct (kv.map fun p => kD p.1) ds)
  | dN {a xs vs ks ds} : F a = some (NDO M.w a xs) → ks = xs.map (fun x => nkD x.1) → ((∀ x ∈ xs, x.1.depth ≤ 8) ∧ xs ≠ []) → RepL M F (xs.map fun x => V.ref x.2.1) ks → Vals vs (xs.map fun x => x.2.2) → RepL M F vs ds → Rep M F (.ref a) (.dct ks ds)
  | cls {C c} : M.mg C = some (.ref c) → Rep M F (.ref c) (.cls C)
  | ptr {a} : Rep M F (.ref a) (.ptr a)
  | tpn {a o xs ds} : F a = some (.frz o (.tup xs)) → o.dict = none → RepL M F xs ds → Rep M F (.ref a) (.tpn ds)
  | exn {a C c dx} {fv : List (Str × V)} {vs ds} : M.mg C = some (.ref c) → F a = some (exo a c (some dx)) → F dx = some (exd dx fv) → fv.map (·.2) = vs → RepL M F vs ds → Rep M F (.ref a) (.exn C (fv.map (·.1)) ds)
  | ex0 {a C c} : M.mg C = some (.ref c) → F a = some (exo a c none) → Rep M F (.ref a) (.exn C [] [])
  | ins {a C c dx} {fv : List (Str × V)} {vs ds} : M.mg C = some (.ref c) → F a = some (.ins c dx fv) → fv.map (·.2) = vs → RepL M F vs ds → Rep M F (.ref a) (.ins C (fv.map (·.1)) ds)
inductive RepL (M : Md) (F : Hp) : List V → List D → Prop
  | nil : RepL M F [] []
  | cons {v vs d ds} : Rep M F v d → RepL M F vs ds → RepL M F (v :: vs) (d :: ds)
end
section
variable {M : Md} {F F' : Hp}
theorem Same.sqT (s : Same F F') {K : PySem.W.Frag} {a : Addr} {xs : List V} (h : SqT K F a xs) : SqT K F' a xs := by
  rcases h with (h | ⟨o, h⟩) | h
  · exact .inl (.inl (s _ _ h))
  · exact .inl (.inr ⟨o, s _ _ h⟩)
  · exact .inr h
mutual
theorem Rep.same (s : Same F F') : ∀ {v : V} {d : D}, Rep M F v d → Rep M F' v d
  | _, _, .non => .non
  | _, _, .bl b => .bl b
  | _, _, .int i => .int i
  | _, _, .str x => .str x
  | _, _, .tup h r => .tup (Same.sqT s h) (RepL.same s r)
  | _, _, .lst h r => .lst (s _ _ h) (RepL.same s r)
  | _, _, .scr h => .scr (s.seq h)
  | _, _, .dK h e r => .dK (s _ _ h) e (RepL.same s r)
  | _, _, .dN h e1 e2 r1 e3 r2 => .dN (s _ _ h) e1 e2 (RepL.same s r1) e3 (RepL.same s r2)
  | _, _, .cls g => .cls g
  | _, _, .ptr => .ptr
  | _, _, .tpn h n r => .tpn (s _ _ h) n (RepL.same s r)
  | _, _, .exn g h1 h2 e r => .exn g (s _ _ h1) (s _ _ h2) e (RepL.same s r)
  | _, _, .ex0 g h => .ex0 g (s _ _ h)
  | _, _, .ins g h e r => .ins g (s _ _ h) e (RepL.same s r)
theorem RepL.same (s : Same F F') : ∀ {vs : List V} {ds : List D}, RepL M F vs ds → RepL M F' vs ds
  | _, _, .nil => .nil
  | _, _, .cons h r => .cons (Rep.same s h) (RepL.same s r)
end
theorem RepL.length : ∀ {vs : List V} {ds : List D}, RepL M F vs ds → vs.length = ds.length
  | _, _, .nil => rfl
  | _, _, .cons _ r => by rw [List.length_cons, List.length_cons, r.length]
theorem RepL.append : ∀ {vs us : List V} {ds es : List D}, RepL M F vs ds → RepL M F us es → RepL M F (vs ++ us) (ds ++ es)
  | _, _, _, _, .nil, s => s
  | _, _, _, _, .cons h r, s => .cons h (RepL.append r s)
theorem RepL.get : ∀ {vs : List V} {ds : List D} {i : Nat} {v : V}, RepL M F vs ds → vs[i]? = some v → ∃ d, ds[i]? = some d ∧ Rep M F v d
  | _, _, _, _, .nil, e => by simp at e
  | _, _, 0, _, .cons h _, e => by simp at e; subst e; exact ⟨_, rfl, h⟩
  | _, _, i + 1, v, .cons _ r, e => by
    obtain ⟨d, h1, h2⟩ := RepL.get (i := i) (v := v) r (by simpa using e)
    exact ⟨d, by simpa using h1, h2⟩
theorem RepL.get' : ∀ {vs : List V} {ds : List D} {i : Nat} {d : D}, RepL M F vs ds → ds[i]? = some d → ∃ v, vs[i]? = some v ∧ Rep M F v d
  | _, _, _, _, .nil, e => by simp at e
  | _, _, 0, _, .cons h _, e => by simp at e; subst e; exact ⟨_, rfl, h⟩
  | _, _, i + 1, d, .cons _ r, e => by
    obtain ⟨v, h1, h2⟩ := RepL.get' (i := i) (d := d) r (by simpa using e)
    exact ⟨v, by simpa using h1, h2⟩
theorem RepL.take : ∀ {vs : List V} {ds : List D} (n : Nat), RepL M F vs ds → RepL M F (vs.take n) (ds.take n)
  | _, _, 0, _ => .nil
  | _, _, _ + 1, .nil => .nil
  | _, _, n + 1, .cons h r => .cons h (RepL.take n r)
theorem RepL.drop : ∀ {vs : List V} {ds : List D} (n : Nat), RepL M F vs ds → RepL M F (vs.drop n) (ds.drop n)
  | _, _, 0, r => r
  | _, _, _ + 1, .nil => .nil
  | _, _, n + 1, .cons _ r => RepL.drop n r
theorem RepL.reverse : ∀ {vs : List V} {ds : List D}, RepL M F vs ds → RepL M F vs.reverse ds.reverse
  | _, _, .nil => .nil
  | _, _, .cons h r => by
    rw [List.reverse_cons, List.reverse_cons]
    exact (RepL.reverse r).append (.cons h .nil)
theorem RepL.set {v : V} {d : D} (h : Rep M F v d) : ∀ {vs : List V} {ds : List D} (i : Nat), RepL M F vs ds → RepL M F (vs.set i v) (ds.set i d)
  | _, _, _, .nil => .nil
  | _, _, 0, .cons _ t => .cons h t
  | _, _, i + 1, .cons q t => .cons q (RepL.set h i t)
theorem RepL.ints : ∀ {vs : List V} {ns : List Int}, RepL M F vs (ns.map D.int) → vs = ns.map V.int
  | _, [], .nil => rfl
  | _, n :: ns, .cons h r => by
    cases h
    rw [RepL.ints (ns := ns) r]; rfl
theorem RepL.of_ints : ∀ (ns : List Int), RepL M F (ns.map V.int) (ns.map D.int)
  | [] => .nil
  | n :: ns => .cons (.int n) (RepL.of_ints ns)
end
abbrev DRep (M : Md) (F H : Hp) (p : Addr) (ks ds : List D) : Prop := (∃ kv : List (Key × V), H p = some (.dK kv) ∧ kv.map (fun p => kD p.1) = ks ∧ RepL M F (kv.map (·.2)) ds) ∨
      (∃ xs vs, H p = some (NDO M.w p xs) ∧ ks = xs.map (fun x => nkD x.1) ∧ ((∀ x ∈ xs, x.1.depth ≤ 8) ∧ xs ≠ []) ∧ RepL M F (xs.map fun x => V.ref x.2.1) ks ∧ Vals vs (xs.map fun x => x.2.2) ∧ RepL M F vs ds)
/-- the items of an owned list that owns some of its items -/
inductive NRepL (M : Md) (F H : Hp) : List V → List NI → Prop
  | nil : NRepL M F H [] []
  | d {v x vs xs} : Rep M F v x → NRepL M F H vs xs → NRepL M F H (v :: vs) (.d x :: xs)
  | l {q us ds vs xs} : F q = none → H q = some (.lst us) → RepL M F us ds → NRepL M F H vs xs → NRepL M F H (.ref q :: vs) (.l q ds :: xs)
  | t {q ks ds vs xs} : F q = none → DRep M F H q ks ds → NRepL M F H vs xs → NRepL M F H (.ref q :: vs) (.t q ks ds :: xs)
theorem DRep.same {M : Md} {F F' H H' : Hp} {p : Addr} {ks ds : List D} (s : Same F F') (e : H' p = H p) (h : DRep M F H p ks ds) : DRep M F' H' p ks ds := by
  rcases h with ⟨kv, h1, h2, h3⟩ | ⟨xs, vs, h1, h2, h3, h4, h5, h6⟩
  · exact .inl ⟨kv, e.trans h1, h2, h3.same s⟩
  · exact .inr ⟨xs, vs, e.trans h1, h2, h3, h4.same s, h5, h6.same s⟩
theorem DRep.there {M : Md} {F H : Hp} {p : Addr} {ks ds : List D} (h : DRep M F H p ks ds) : ∃ u, H p = some u := by
  rcases h with ⟨kv, h1, _⟩ | ⟨xs, vs, h1, _⟩
  · exact ⟨_, h1⟩
  · exact ⟨_, h1⟩
theorem NRepL.same {M : Md} {F F' H H' : Hp} (s : Same F F') : ∀ {vs : List V} {xs : List NI}, (∀ b ∈ innL xs, H' b = H b ∧ F' b = none) → NRepL M F H vs xs → NRepL M F' H' vs xs
  | _, _, _, .nil => .nil
  | _, _, e, .d h tl => .d (h.same s) (NRepL.same s e tl)
  | _, _, e, .l _ h r tl => .l (e _ List.mem_cons_self).2 ((e _ List.mem_cons_self).1.trans h) (r.same s) (NRepL.same s (fun b hb => e b (List.mem_cons_of_mem _ hb)) tl)
  | _, _, e, .t _ h tl => .t (e _ List.mem_cons_self).2 (DRep.same s (e _ List.mem_cons_self).1 h) (NRepL.same s (fun b hb => e b (List.mem_cons_of_mem _ hb)) tl)
theorem NRepL.inner {M : Md} {F H : Hp} : ∀ {vs : List V} {xs : List NI}, NRepL M F H vs xs → ∀ b ∈ innL xs, F b = none ∧ ∃ u, H b = some u
  | _, _, .nil, _, hb => nomatch hb
  | _, _, .d _ tl, b, hb => NRepL.inner tl b hb
  | _, _, .l f h _ tl, b, hb => by
    rcases List.mem_cons.mp hb with rfl | hb
    · exact ⟨f, _, h⟩
    · exact NRepL.inner tl b hb
  | _, _, .t f h tl, b, hb => by
    rcases List.mem_cons.mp hb with rfl | hb
    · exact ⟨f, DRep.there h⟩
    · exact NRepL.inner tl b hb
theorem NRepL.length {M : Md} {F H : Hp} : ∀ {vs : List V} {xs : List NI}, NRepL M F H vs xs → vs.length = xs.length
  | _, _, .nil => rfl
  | _, _, .d _ tl => by rw [List.length_cons, List.length_cons, tl.length]
  | _, _, .l _ _ _ tl => by rw [List.length_cons, List.length_cons, tl.length]
  | _, _, .t _ _ tl => by rw [List.length_cons, List.length_cons, tl.length]
/-- the heap object of an owned content at p -/
def ORep (M : Md) (F H : Hp) (p : Addr) : O → Prop
  | .nst xs => ∃ vs, H p = some (.lst vs) ∧ NRepL M F H vs xs ∧ (p :: innL xs).Nodup
  | .lst ds => ∃ xs, H p = some (.lst xs) ∧ RepL M F xs ds
  | .dct ks ds => (∃ kv : List (Key × V), H p = some (.dK kv) ∧ kv.map (fun p => kD p.1) = ks ∧ RepL M F (kv.map (·.2)) ds) ∨
      (∃ xs vs, H p = some (NDO M.w p xs) ∧ ks = xs.map (fun x => nkD x.1) ∧ ((∀ x ∈ xs, x.1.depth ≤ 8) ∧ xs ≠ []) ∧ RepL M F (xs.map fun x => V.ref x.2.1) ks ∧ Vals vs (xs.map fun x => x.2.2) ∧ RepL M F vs ds)
  | .ins C ks ds => ∃ c dx fv, M.mg C = some (.ref c) ∧ H p = some (.ins c dx fv) ∧ fv.map (·.1) = ks ∧ RepL M F (fv.map (·.2)) ds
theorem same_upd {F : Hp} {p : Addr} {o : HO} (h : F p = none) : Same F (upd F p o) := fun b x e => by
  rw [upd_ne (ne_of_none e h)]; exact e
theorem same_updR {F H : Hp} {p : Addr} {o : HO} (s : Same F H) (h : H p = some o) : Same (upd F p o) H := fun b x e => by
  by_cases hb : b = p
  · subst hb; rw [upd_same] at e; cases e; exact h
  · rw [upd_ne hb] at e; exact s _ _ e
theorem ORep.same {M : Md} {F F' H H' : Hp} {p : Addr} {o : O} (s : Same F F') (e : H' p = H p) (hin : ∀ b ∈ o.inn, H' b = H b ∧ F' b = none) (h : ORep M F H p o) : ORep M F' H' p o := by
  cases o with
  | nst xs => obtain ⟨vs, h1, h2, h3⟩ := h; exact ⟨vs, e.trans h1, h2.same s hin, h3⟩
  | lst ds => obtain ⟨xs, h1, h2⟩ := h; exact ⟨xs, e.trans h1, h2.same s⟩
  | dct ks ds =>
    rcases h with ⟨kv, h1, h2, h3⟩ | ⟨xs, vs, h1, h2, h3, h4, h5, h6⟩
    · exact .inl ⟨kv, e.trans h1, h2, h3.same s⟩
    · exact .inr ⟨xs, vs, e.trans h1, h2, h3, h4.same s, h5, h6.same s⟩
  | ins C ks ds => obtain ⟨c, dx, fv, g, h1, h2, h3⟩ := h; exact ⟨c, dx, fv, g, e.trans h1, h2, h3.same s⟩
theorem ORep.there {M : Md} {F H : Hp} {p : Addr} {o : O} (h : ORep M F H p o) : ∃ u, H p = some u := by
  cases o with
  | nst xs => obtain ⟨vs, h1, _⟩ := h; exact ⟨_, h1⟩
  | lst ds => obtain ⟨xs, h1, _⟩ := h; exact ⟨_, h1⟩
  | dct ks ds => exact DRep.there h
  | ins C ks ds => obtain ⟨c, dx, fv, g, h1, h2, h3⟩ := h; exact ⟨_, h1⟩
theorem ORep.inner {M : Md} {F H : Hp} {p : Addr} {o : O} (h : ORep M F H p o) : ∀ b ∈ o.inn, F b = none ∧ ∃ u, H b = some u := by
  cases o with
  | nst xs => obtain ⟨vs, _, h2, _⟩ := h; exact h2.inner
  | _ => exact fun b hb => nomatch hb
theorem ORep.has {M : Md} {F H : Hp} {p : Addr} {o : O} (h : ORep M F H p o) (hp : F p = none) : ∀ b, Has p o b → F b = none ∧ ∃ u, H b = some u := fun b hb => by
  rcases hb with rfl | hb
  · exact ⟨hp, h.there⟩
  · exact h.inner b hb
/-- F' is F and what stands at S -/
structure FrzTo (F H F' : Hp) (S : Addr → Prop) : Prop where
  fs : Same F F'
  sub : Same F' H
  fn : ∀ b u, F' b = some u → F b = some u ∨ S b
  ne : ∀ b, ¬ S b → F' b = F b
theorem FrzTo.one {F H : Hp} {p : Addr} {u : HO} (s : Same F H) (hp : F p = none) (hu : H p = some u) : FrzTo F H (upd F p u) (· = p) where
  fs := same_upd hp
  sub := same_updR s hu
  fn := fun b v h => by
    by_cases e : b = p
    · exact .inr e
    · rw [upd_ne e] at h; exact .inl h
  ne := fun b h => upd_ne h
theorem FrzTo.trans {F H F1 F2 : Hp} {S T : Addr → Prop} (a : FrzTo F H F1 S) (b : FrzTo F1 H F2 T) : FrzTo F H F2 fun x => S x ∨ T x where
  fs := a.fs.trans b.fs
  sub := b.sub
  fn := fun x u h => by
    rcases b.fn x u h with h | h
    · rcases a.fn x u h with h | h
      · exact .inl h
      · exact .inr (.inl h)
    · exact .inr (.inr h)
  ne := fun x h => (b.ne x fun z => h (.inr z)).trans (a.ne x fun z => h (.inl z))
theorem FrzTo.mono {F H F1 : Hp} {S T : Addr → Prop} (a : FrzTo F H F1 S) (h : ∀ b, S b ↔ T b) : FrzTo F H F1 T := by
  have : S = T := funext fun b => propext (h b)
  exact this ▸ a
theorem FrzTo.refl {F H : Hp} {S : Addr → Prop} (s : Same F H) (h : ∀ b, ¬ S b) : FrzTo F H F S := ⟨Same.refl _, s, fun _ _ h => .inl h, fun _ _ => rfl⟩
theorem DRep.freeze {M : Md} {F H : Hp} {p : Addr} {ks ds : List D} (h : DRep M F H p ks ds) (hp : F p = none) : ∃ u, H p = some u ∧ Rep M (upd F p u) (.ref p) (.dct ks ds) := by
  have s : ∀ u, Same F (upd F p u) := fun u => same_upd hp
  rcases h with ⟨kv, h1, h2, h3⟩ | ⟨xs, vs, h1, h2, h3, h4, h5, h6⟩
  · subst h2; exact ⟨_, h1, .dK upd_same rfl (h3.same (s _))⟩
  · exact ⟨_, h1, .dN upd_same h2 h3 (h4.same (s _)) h5 (h6.same (s _))⟩
theorem NRepL.freeze {M : Md} {H : Hp} : ∀ {F : Hp} {vs : List V} {xs : List NI}, Same F H → NRepL M F H vs xs → (innL xs).Nodup → ∃ F', FrzTo F H F' (· ∈ innL xs) ∧ RepL M F' vs (xs.map NI.dt)
  | F, _, _, s, .nil, _ => ⟨F, .refl s (fun _ h => nomatch h), .nil⟩
  | F, _, _, s, .d h tl, n => by
    obtain ⟨F', a, b⟩ := NRepL.freeze s tl n
    exact ⟨F', a, .cons (h.same a.fs) b⟩
  | F, _, _, s, .l (q := q) (xs := xs) hf h r tl, n => by
    have n' := List.nodup_cons.mp n
    have a := FrzTo.one s hf h
    have t' : NRepL M (upd F q _) H _ xs := tl.same a.fs fun b hb => ⟨rfl, by
      have : b ≠ q := fun z => n'.1 (z ▸ hb)
      rw [upd_ne this]; exact (tl.inner b hb).1⟩
    obtain ⟨F', b, c⟩ := NRepL.freeze a.sub t' n'.2
    exact ⟨F', (a.trans b).mono fun x => List.mem_cons.symm, .cons (.lst (b.fs _ _ upd_same) (r.same (a.fs.trans b.fs))) c⟩
  | F, _, _, s, .t (q := q) (xs := xs) hf h tl, n => by
    have n' := List.nodup_cons.mp n
    obtain ⟨u, hu, rp⟩ := DRep.freeze h hf
    have a := FrzTo.one s hf hu
    have t' : NRepL M (upd F q u) H _ xs := tl.same a.fs fun b hb => ⟨rfl, by
      have : b ≠ q := fun z => n'.1 (z ▸ hb)
      rw [upd_ne this]; exact (tl.inner b hb).1⟩
    obtain ⟨F', b, c⟩ := NRepL.freeze a.sub t' n'.2
    exact ⟨F', (a.trans b).mono fun x => List.mem_cons.symm, .cons (rp.same b.fs) c⟩
/-- an owned object is frozen -/
theorem ORep.freeze {M : Md} {F H : Hp} {p : Addr} {o : O} (sm : Same F H) (h : ORep M F H p o) (hp : F p = none) : ∃ F', FrzTo F H F' (Has p o) ∧ Rep M F' (.ref p) o.d := by
  have s : ∀ u, Same F (upd F p u) := fun u => same_upd hp
  have e0 : ∀ {o : O}, o.inn = [] → ∀ b, b = p ↔ Has p o b := fun ho b => ⟨fun z => .inl z, fun z => has1 (P := (· = p)) ho rfl b z⟩
  cases o with
  | lst ds => obtain ⟨xs, h1, h2⟩ := h; exact ⟨_, (FrzTo.one sm hp h1).mono (e0 rfl), .lst upd_same (h2.same (s _))⟩
  | dct ks ds =>
    obtain ⟨u, hu, rp⟩ := DRep.freeze h hp
    exact ⟨_, (FrzTo.one sm hp hu).mono (e0 rfl), rp⟩
  | ins C ks ds => obtain ⟨c, dx, fv, g, h1, h2, h3⟩ := h; subst h2; exact ⟨_, (FrzTo.one sm hp h1).mono (e0 rfl), .ins g upd_same rfl (h3.same (s _))⟩
  | nst xs =>
    obtain ⟨vs, h1, h2, h3⟩ := h
    have n' := List.nodup_cons.mp h3
    obtain ⟨F1, a, b⟩ := h2.freeze sm n'.2
    have hp1 : F1 p = none := (a.ne p n'.1).trans hp
    have c := FrzTo.one a.sub hp1 h1
    exact ⟨_, (a.trans c).mono fun x => Or.comm, .lst upd_same (b.same c.fs)⟩
/-- the addresses that the slots own -/
def Own (σ : St) (env : En) (b : Addr) : Prop := ∃ (i : Nat) (o : O), env[i]? = some (some (Val.ow o)) ∧ ∃ p, σ[i]? = some (some (V.ref p)) ∧ Has p o b
/-- what a def's proof fixes: the slots that are not stored (its owned parameters), their values, the tracked heap at its start -/
structure Ct where
  pn : List Nat
  σ₀ : St
  h₀ : Hp
  xc : Addr → Value → Option Addr → Prop
  /-- the tracked heap before what stands within owned objects was made -/
  hN : Hp
/-- arguments: none of them owns within -/
def ctN (H : Hp) : Ct := ⟨[], [], fun _ => none, fun _ _ _ => False, H⟩
def XOk (M : Md) (F : Hp) (x : Xn) (c : Value) (d : Option Addr) : Prop :=
  ∃ C, M.mg x.C = some (.ref C) ∧ c = .ref C ∧ ((d = none ∧ x.ks = [] ∧ x.vs = []) ∨ ∃ (dd : Addr) (fv : List (Str × V)), d = some dd ∧ F dd = some (.xd fv) ∧ fv.map (·.1) = x.ks ∧ RepL M F (fv.map (·.2)) x.vs)
theorem XOk.same {M : Md} {F F' : Hp} {x : Xn} {cl : Value} {d : Option Addr} (h : XOk M F x cl d) (s : Same F F') : XOk M F' x cl d := by
  obtain ⟨C, h1, h2, h3⟩ := h
  refine ⟨C, h1, h2, ?_⟩
  rcases h3 with h3 | ⟨dd, fv, h3, h4, h5, h6⟩
  · exact .inl h3
  · exact .inr ⟨dd, fv, h3, s _ _ h4, h5, h6.same s⟩
structure Rel (M : Md) (c : Ct) (F H : Hp) (σ : St) (env : En) : Prop where
  sub : Same F H
  len : env.length = σ.length
  fz : ∀ (i : Nat) (d : D), env[i]? = some (some (.fz d)) → ∃ v, σ[i]? = some (some v) ∧ Rep M F v d
  ow : ∀ (i : Nat) (o : O), env[i]? = some (some (.ow o)) → ∃ p, σ[i]? = some (some (.ref p)) ∧ F p = none ∧ ORep M F H p o
  ex : ∀ (i : Nat) (a : Addr) (C : Str) (ks : List Str) (vs : List D), env[i]? = some (some (.ex a C ks vs)) → σ[i]? = some (some (.ref a)) ∧ ∃ cl d, c.xc a cl d ∧ XOk M F ⟨C, ks, vs⟩ cl d
  sep : ∀ (i j : Nat) (o u : O) (b : Addr), env[i]? = some (some (.ow o)) → env[j]? = some (some (.ow u)) → (∃ p, σ[i]? = some (some (.ref p)) ∧ Has p o b) → (∃ p, σ[j]? = some (some (.ref p)) ∧ Has p u b) → i = j
  pin : ∀ i : Nat, i ∈ c.pn → σ[i]? = c.σ₀[i]?
  old : ∀ b u, c.h₀ b = some u → ∃ u', H b = some u'
  fr : ∀ (i : Nat) (o : O) (p : Addr), env[i]? = some (some (.ow o)) → i ∉ c.pn → σ[i]? = some (some (.ref p)) → c.h₀ p = none
  frN : ∀ (i : Nat) (o : O) (b : Addr), env[i]? = some (some (.ow o)) → b ∈ o.inn → c.hN b = none ∧ c.h₀ b = none
  oldN : ∀ b u, c.hN b = some u → ∃ u', H b = some u'
/-- from (F, H) to (F', H'): only what A holds has changed or was frozen; A' is A or new -/
structure Evo (A A' : Addr → Prop) (F H F' H' : Hp) : Prop where
  fs : Same F F'
  fn : ∀ b o, F' b = some o → F b = some o ∨ H b = none ∨ A b
  hk : ∀ b o, H b = some o → ¬ A b → H' b = some o
  ht : ∀ b o, H b = some o → ∃ u, H' b = some u
  aa : ∀ b, A' b → A b ∨ H b = none
theorem Evo.refl {A : Addr → Prop} {F H : Hp} : Evo A A F H F H := ⟨Same.refl _, fun _ _ h => .inl h, fun _ _ h _ => h, fun _ o h => ⟨o, h⟩, fun _ h => .inl h⟩
theorem Evo.sub {A A' : Addr → Prop} {F H : Hp} (h : ∀ b, A' b → A b) : Evo A A' F H F H := ⟨Same.refl _, fun _ _ h => .inl h, fun _ _ h _ => h, fun _ o h => ⟨o, h⟩, fun b q => .inl (h b q)⟩
theorem Evo.trans {A A' A'' : Addr → Prop} {F H F' H' F'' H'' : Hp} (a : Evo A A' F H F' H') (b : Evo A' A'' F' H' F'' H'') : Evo A A'' F H F'' H'' := by
  have key : ∀ c, H' c = none → H c = none := fun c e => by
    cases q : H c with
    | none => rfl
    | some o => obtain ⟨u, hu⟩ := a.ht c o q; rw [hu] at e; cases e
  refine ⟨a.fs.trans b.fs, fun c o h => ?_, fun c o h n => ?_, fun c o h => ?_, fun c h => ?_⟩
  · rcases b.fn c o h with h | h | h
    · exact a.fn c o h
    · exact .inr (.inl (key c h))
    · rcases a.aa c h with h | h
      · exact .inr (.inr h)
      · exact .inr (.inl h)
  · refine b.hk c o (a.hk c o h n) fun z => ?_
    rcases a.aa c z with z | z
    · exact n z
    · rw [h] at z; cases z
  · obtain ⟨u, hu⟩ := a.ht c o h
    exact b.ht c u hu
  · rcases b.aa c h with h | h
    · exact a.aa c h
    · exact .inr (key c h)
theorem Evo.noneOf {A A' : Addr → Prop} {F H F' H' : Hp} (a : Evo A A' F H F' H') {c : Addr} (e : H' c = none) : H c = none := by
  cases q : H c with
  | none => rfl
  | some o => obtain ⟨u, hu⟩ := a.ht c o q; rw [hu] at e; cases e
/-- what is tracked, owned by none and not frozen stays so -/
theorem Evo.keepTemp {A A' : Addr → Prop} {F H F' H' : Hp} (a : Evo A A' F H F' H') {p : Addr} {u : HO} (h : H p = some u) (hf : F p = none) (hA : ¬ A p) : H' p = some u ∧ F' p = none ∧ ¬ A' p := by
  refine ⟨a.hk p u h hA, ?_, fun z => ?_⟩
  · cases q : F' p with
    | none => rfl
    | some o =>
      rcases a.fn p o q with z | z | z
      · rw [hf] at z; cases z
      · rw [h] at z; cases z
      · exact absurd z hA
  · rcases a.aa p z with z | z
    · exact hA z
    · rw [h] at z; cases z
/-- no owner at all touched -/
abbrev Nob : Addr → Prop := fun _ => False
theorem Evo.nob {A : Addr → Prop} {F H F' H' : Hp} (a : Evo Nob Nob F H F' H') : Evo A A F H F' H' :=
  ⟨a.fs, fun b o h => by rcases a.fn b o h with h | h | h; exact .inl h; exact .inr (.inl h); exact h.elim, fun b o h _ => a.hk b o h (fun z => z), a.ht, fun _ h => .inl h⟩
/-- a new frozen object -/
theorem Evo.newF {F H : Hp} {p : Addr} {o : HO} (hp : H p = .none) (hF : F p = .none) : Evo Nob Nob F H (upd F p o) (upd H p o) := by
  refine ⟨same_upd hF, fun b u h => ?_, fun b u h _ => ?_, fun b u h => ?_, fun _ h => h.elim⟩
  · by_cases hb : b = p
    · subst hb; exact .inr (.inl hp)
    · rw [upd_ne hb] at h; exact .inl h
  · rw [upd_ne (ne_of_none h hp)]; exact h
  · exact ⟨u, by rw [upd_ne (ne_of_none h hp)]; exact h⟩
/-- a new owned object -/
theorem Evo.newO {F H : Hp} {p : Addr} {o : HO} (hp : H p = .none) : Evo Nob Nob F H F (upd H p o) := by
  refine ⟨Same.refl _, fun b u h => .inl h, fun b u h _ => ?_, fun b u h => ?_, fun _ h => h.elim⟩
  · rw [upd_ne (ne_of_none h hp)]; exact h
  · exact ⟨u, by rw [upd_ne (ne_of_none h hp)]; exact h⟩
theorem same_newO {F H : Hp} {p : Addr} {o : HO} (s : Same F H) (hp : H p = none) : Same F (upd H p o) := fun b u h => by
  have := s _ _ h
  rw [upd_ne (ne_of_none this hp)]; exact this
theorem same_newF {F H : Hp} {p : Addr} {o : HO} (s : Same F H) (hp : H p = none) : Same (upd F p o) (upd H p o) := fun b u h => by
  by_cases hb : b = p
  · subst hb; rw [upd_same] at h ⊢; exact h
  · rw [upd_ne hb] at h ⊢; exact s _ _ h
section
variable {M : Md} {c : Ct} {F H F' H' : Hp} {σ : St} {env env' : En}
theorem Rel.new (R : Rel M c F H σ env) {p : Addr} (h : H p = none) : c.h₀ p = none := by
  cases q : c.h₀ p with
  | none => rfl
  | some u => obtain ⟨u', hu⟩ := R.old p u q; rw [h] at hu; cases hu
theorem Rel.newN (R : Rel M c F H σ env) {p : Addr} (h : H p = none) : c.hN p = none := by
  cases q : c.hN p with
  | none => rfl
  | some u => obtain ⟨u', hu⟩ := R.oldN p u q; rw [h] at hu; cases hu
theorem Rel.own_some (R : Rel M c F H σ env) {b : Addr} (h : Own σ env b) : ∃ u, H b = some u := by
  obtain ⟨i, o, h1, p, h2, h5⟩ := h
  obtain ⟨q, h3, h4, h6⟩ := R.ow i o h1
  rw [h2] at h3; cases h3; exact (h6.has h4 b h5).2
/-- a step that touches no owner -/
theorem Rel.evo (R : Rel M c F H σ env) (e : Evo Nob Nob F H F' H') (s : Same F' H') : Rel M c F' H' σ env := by
  refine ⟨s, R.len, fun i d h => ?_, fun i o h => ?_, fun i a C ks vs h => (R.ex i a C ks vs h).imp id fun ⟨cl, d, h2, h3⟩ => ⟨cl, d, h2, h3.same e.fs⟩, R.sep, R.pin, fun b u h => ?_, R.fr, R.frN, fun b u h => ?_⟩
  · obtain ⟨v, h1, h2⟩ := R.fz i d h
    exact ⟨v, h1, h2.same e.fs⟩
  · obtain ⟨p, h1, h2, h3⟩ := R.ow i o h
    have k : ∀ b, Has p o b → H' b = H b ∧ F' b = none := fun b hb => by
      obtain ⟨h4, u, hu⟩ := h3.has h2 b hb
      obtain ⟨q1, q2, _⟩ := e.keepTemp hu h4 (fun z => z)
      exact ⟨q1.trans hu.symm, q2⟩
    exact ⟨p, h1, (k p .self).2, h3.same e.fs (k p .self).1 fun b hb => k b (.inr hb)⟩
  · obtain ⟨u', hu⟩ := R.old b u h
    exact e.ht b u' hu
  · obtain ⟨u', hu⟩ := R.oldN b u h
    exact e.ht b u' hu
/-- more is frozen, nothing of it owned -/
theorem Rel.frzTo (R : Rel M c F H σ env) {F' : Hp} {S : Addr → Prop} (f : FrzTo F H F' S) (hn : ∀ b, S b → ¬ Own σ env b) : Rel M c F' H σ env := by
  refine ⟨f.sub, R.len, fun i d h => ?_, fun i o h => ?_, fun i a C ks vs h => (R.ex i a C ks vs h).imp id fun ⟨cl, d, h2, h3⟩ => ⟨cl, d, h2, h3.same f.fs⟩, R.sep, R.pin, R.old, R.fr, R.frN, R.oldN⟩
  · obtain ⟨v, h1, h2⟩ := R.fz i d h
    exact ⟨v, h1, h2.same f.fs⟩
  · obtain ⟨p, h1, h2, h3⟩ := R.ow i o h
    have k : ∀ b, Has p o b → F' b = none := fun b hb => by
      rw [f.ne b fun z => hn b z ⟨i, o, h, p, h1, hb⟩]
      exact (h3.has h2 b hb).1
    exact ⟨p, h1, k p .self, h3.same f.fs rfl fun b hb => ⟨rfl, k b (.inr hb)⟩⟩
/-- slot i's object is frozen -/
theorem Rel.freeze (R : Rel M c F H σ env) {i : Nat} {o : O} (h : env[i]? = some (some (.ow o))) : ∃ p F', σ[i]? = some (some (.ref p)) ∧ Rel M c F' H σ (env.set i (some (.fz o.d))) ∧ Rep M F' (.ref p) o.d ∧
    Evo (Own σ env) (Own σ (env.set i (some (.fz o.d)))) F H F' H ∧ (∀ b, F' b = none → F b = none) ∧ (∀ b, ¬ Has p o b → F' b = F b) := by
  obtain ⟨p, h1, h2, h3⟩ := R.ow i o h
  obtain ⟨F', f, h5⟩ := h3.freeze R.sub h2
  have hi : i < env.length := (List.getElem?_eq_some_iff.mp h).1
  have key : ∀ {j : Nat} {v : O}, (env.set i (some (.fz o.d)))[j]? = some (some (.ow v)) → i ≠ j ∧ env[j]? = some (some (.ow v)) := fun {j v} hj => by
    by_cases e : i = j
    · subst e
      rw [List.getElem?_set_self hi] at hj
      cases hj
    · rw [List.getElem?_set_ne e] at hj
      exact ⟨e, hj⟩
  refine ⟨p, F', h1, ⟨f.sub, by rw [List.length_set]; exact R.len, fun j d hj => ?_, fun j v hj => ?_, fun j a C ks vs hj => ?_, fun j k v w q hj hk => R.sep j k v w q (key hj).2 (key hk).2, R.pin, R.old, fun j v q hj hn hq => R.fr j v q (key hj).2 hn hq, fun j v q hj hq => R.frN j v q (key hj).2 hq, R.oldN⟩, h5, ⟨f.fs, fun b v hb => ?_, fun b v hb _ => hb, fun b v hb => ⟨v, hb⟩, fun b ⟨j, v, h6, h7⟩ => .inl ⟨j, v, (key h6).2, h7⟩⟩, fun b hb => ?_, f.ne⟩
  · by_cases e : i = j
    · subst e
      rw [List.getElem?_set_self hi] at hj
      cases hj
      exact ⟨_, h1, h5⟩
    · rw [List.getElem?_set_ne e] at hj
      obtain ⟨w, h6, h7⟩ := R.fz j d hj
      exact ⟨w, h6, h7.same f.fs⟩
  · obtain ⟨e, hj⟩ := key hj
    obtain ⟨q, h6, h7, h8⟩ := R.ow j v hj
    have k : ∀ b, Has q v b → F' b = none := fun b hb => by
      rw [f.ne b fun z => e (R.sep i j o v b h hj ⟨p, h1, z⟩ ⟨q, h6, hb⟩)]
      exact (h8.has h7 b hb).1
    exact ⟨q, h6, k q .self, h8.same f.fs rfl fun b hb => ⟨rfl, k b (.inr hb)⟩⟩
  · by_cases e : i = j
    · subst e
      rw [List.getElem?_set_self hi] at hj
      cases hj
    · rw [List.getElem?_set_ne e] at hj
      exact (R.ex j a C ks vs hj).imp id fun ⟨cl, d, h2, h3⟩ => ⟨cl, d, h2, h3.same f.fs⟩
  · rcases f.fn b v hb with z | z
    · exact .inl z
    · exact .inr (.inr ⟨i, o, h, p, h1, z⟩)
  · cases q : F b with
    | none => rfl
    | some v => rw [f.fs _ _ q] at hb; cases hb
/-- a new value for slot i, in both -/
theorem Rel.setFz (R : Rel M c F H σ env) {i : Nat} {v : V} {d : D} (hi : i ∉ c.pn) (hl : i < σ.length) (r : Rep M F v d) : Rel M c F H (σ.set i (some v)) (env.set i (some (.fz d))) := by
  have hl' : i < env.length := by rw [R.len]; exact hl
  refine ⟨R.sub, by rw [List.length_set, List.length_set]; exact R.len, fun j e hj => ?_, fun j o hj => ?_, fun j a C ks vs hj => ?_, fun j k o u p hj hk => ?_, fun j hj => ?_, R.old, fun j o p hj hn hp => ?_, fun j o b hj hb => ?_, R.oldN⟩
  · by_cases e : i = j
    · subst e
      rw [List.getElem?_set_self hl'] at hj
      cases hj
      exact ⟨v, List.getElem?_set_self hl, r⟩
    · rw [List.getElem?_set_ne e] at hj ⊢
      exact R.fz j _ hj
  · by_cases e : i = j
    · subst e
      rw [List.getElem?_set_self hl'] at hj
      cases hj
    · rw [List.getElem?_set_ne e] at hj ⊢
      exact R.ow j _ hj
  · by_cases e : i = j
    · subst e
      rw [List.getElem?_set_self hl'] at hj
      cases hj
    · rw [List.getElem?_set_ne e] at hj ⊢
      exact R.ex j a C ks vs hj
  · by_cases e : i = j
    · subst e
      rw [List.getElem?_set_self hl'] at hj
      cases hj
    · by_cases e2 : i = k
      · subst e2
        rw [List.getElem?_set_self hl'] at hk
        cases hk
      · rw [List.getElem?_set_ne e] at hj ⊢
        rw [List.getElem?_set_ne e2] at hk ⊢
        exact R.sep j k o u p hj hk
  · have e : i ≠ j := fun z => hi (z ▸ hj)
    rw [List.getElem?_set_ne e]
    exact R.pin j hj
  · by_cases e : i = j
    · subst e
      rw [List.getElem?_set_self hl'] at hj
      cases hj
    · rw [List.getElem?_set_ne e] at hj hp
      exact R.fr j o p hj hn hp
  · by_cases e : i = j
    · subst e
      rw [List.getElem?_set_self hl'] at hj
      cases hj
    · rw [List.getElem?_set_ne e] at hj
      exact R.frN j o b hj hb
theorem own_setFz {i : Nat} {v : V} {d : D} : ∀ b, Own (σ.set i (some v)) (env.set i (some (.fz d))) b → Own σ env b := fun b ⟨j, o, h1, h2⟩ => by
  by_cases e : i = j
  · subst e
    by_cases hl : i < env.length
    · rw [List.getElem?_set_self hl] at h1; cases h1
    · rw [List.getElem?_eq_none (by rw [List.length_set]; omega)] at h1; cases h1
  · rw [List.getElem?_set_ne e] at h1 h2
    exact ⟨j, o, h1, h2⟩
/-- slot i gets an owned object that none owns -/
theorem Rel.setOw (R : Rel M c F H σ env) {i : Nat} {p : Addr} {o : O} (hi : i ∉ c.pn) (hl : i < σ.length) (hp : F p = none) (r : ORep M F H p o) (hn : ∀ b, Has p o b → ¬ Own σ env b) (h0 : c.h₀ p = none) (hN : ∀ b ∈ o.inn, c.hN b = none ∧ c.h₀ b = none) : Rel M c F H (σ.set i (some (.ref p))) (env.set i (some (.ow o))) := by
  have hl' : i < env.length := by rw [R.len]; exact hl
  refine ⟨R.sub, by rw [List.length_set, List.length_set]; exact R.len, fun j e hj => ?_, fun j o' hj => ?_, fun j a C ks vs hj => ?_, fun j k o' u q hj hk hj' hk' => ?_, fun j hj => ?_, R.old, fun j o' q hj hn' hq => ?_, fun j o' b hj hb => ?_, R.oldN⟩
  · by_cases e : i = j
    · subst e
      rw [List.getElem?_set_self hl'] at hj
      cases hj
    · rw [List.getElem?_set_ne e] at hj ⊢
      exact R.fz j _ hj
  · by_cases e : i = j
    · subst e
      rw [List.getElem?_set_self hl'] at hj
      cases hj
      exact ⟨p, List.getElem?_set_self hl, hp, r⟩
    · rw [List.getElem?_set_ne e] at hj ⊢
      exact R.ow j _ hj
  · by_cases e : i = j
    · subst e
      rw [List.getElem?_set_self hl'] at hj
      cases hj
    · rw [List.getElem?_set_ne e] at hj ⊢
      exact R.ex j a C ks vs hj
  · by_cases e : i = j
    · subst e
      by_cases e2 : i = k
      · exact e2
      · rw [List.getElem?_set_ne e2] at hk hk'
        rw [List.getElem?_set_self hl] at hj'
        rw [List.getElem?_set_self hl'] at hj
        cases hj
        obtain ⟨p', hj1, hj2⟩ := hj'
        cases hj1
        exact absurd ⟨k, u, hk, hk'⟩ (hn _ hj2)
    · by_cases e2 : i = k
      · subst e2
        rw [List.getElem?_set_ne e] at hj hj'
        rw [List.getElem?_set_self hl] at hk'
        rw [List.getElem?_set_self hl'] at hk
        cases hk
        obtain ⟨p', hk1, hk2⟩ := hk'
        cases hk1
        exact absurd ⟨j, o', hj, hj'⟩ (hn _ hk2)
      · rw [List.getElem?_set_ne e] at hj hj'
        rw [List.getElem?_set_ne e2] at hk hk'
        exact R.sep j k o' u q hj hk hj' hk'
  · have e : i ≠ j := fun z => hi (z ▸ hj)
    rw [List.getElem?_set_ne e]
    exact R.pin j hj
  · by_cases e : i = j
    · subst e
      rw [List.getElem?_set_self hl] at hq
      cases hq
      exact h0
    · rw [List.getElem?_set_ne e] at hj hq
      exact R.fr j o' q hj hn' hq
  · by_cases e : i = j
    · subst e
      rw [List.getElem?_set_self hl'] at hj
      cases hj
      exact hN b hb
    · rw [List.getElem?_set_ne e] at hj
      exact R.frN j o' b hj hb
theorem own_setOw {i : Nat} {p : Addr} {o : O} : ∀ b, Own (σ.set i (some (.ref p))) (env.set i (some (.ow o))) b → Own σ env b ∨ Has p o b := fun b ⟨j, o', h1, h2⟩ => by
  by_cases e : i = j
  · subst e
    obtain ⟨p', h2, h3⟩ := h2
    by_cases hl : i < σ.length
    · rw [List.getElem?_set_self hl] at h2
      cases h2
      by_cases hl' : i < env.length
      · rw [List.getElem?_set_self hl'] at h1
        cases h1
        exact .inr h3
      · rw [List.getElem?_eq_none (by rw [List.length_set]; omega)] at h1; cases h1
    · rw [List.getElem?_eq_none (by rw [List.length_set]; omega)] at h2; cases h2
  · rw [List.getElem?_set_ne e] at h1 h2
    exact .inl ⟨j, o', h1, h2⟩
/-- slot i forgotten by the environment -/
theorem Rel.forget (R : Rel M c F H σ env) (i : Nat) : Rel M c F H σ (env.set i none) := by
  have key : ∀ {j : Nat} {v : Val}, (env.set i none)[j]? = some (some v) → env[j]? = some (some v) := fun {j v} h => by
    by_cases e : i = j
    · subst e
      by_cases hl : i < env.length
      · rw [List.getElem?_set_self hl] at h; cases h
      · rw [List.getElem?_eq_none (by rw [List.length_set]; omega)] at h; cases h
    · rw [List.getElem?_set_ne e] at h; exact h
  exact ⟨R.sub, by rw [List.length_set]; exact R.len, fun j d h => R.fz j d (key h), fun j o h => R.ow j o (key h), fun j a C ks vs h => R.ex j a C ks vs (key h), fun j k o u p h1 h2 => R.sep j k o u p (key h1) (key h2), R.pin, R.old, fun j o p h => R.fr j o p (key h), fun j o b h => R.frN j o b (key h), R.oldN⟩
theorem own_forget {i : Nat} : ∀ b, Own σ (env.set i none) b → Own σ env b := fun b ⟨j, o, h1, h2⟩ => by
  by_cases e : i = j
  · subst e
    by_cases hl : i < env.length
    · rw [List.getElem?_set_self hl] at h1; cases h1
    · rw [List.getElem?_eq_none (by rw [List.length_set]; omega)] at h1; cases h1
  · rw [List.getElem?_set_ne e] at h1
    exact ⟨j, o, h1, h2⟩
/-- slot i's owned object is written: from o to o', at p or within -/
theorem Rel.writeG (R : Rel M c F H σ env) {i : Nat} {p b0 : Addr} {o o' : O} {u : HO} (h : env[i]? = some (some (.ow o))) (hp : σ[i]? = some (some (.ref p))) (hb0 : Has p o b0) (hin : ∀ b ∈ o'.inn, b ∈ o.inn) (r : ORep M F (upd H b0 u) p o') :
    Rel M c F (upd H b0 u) σ (env.set i (some (.ow o'))) ∧ Evo (Own σ env) (Own σ (env.set i (some (.ow o')))) F H F (upd H b0 u) := by
  have hi : i < env.length := (List.getElem?_eq_some_iff.mp h).1
  obtain ⟨q, h1, h2, h3⟩ := R.ow i o h
  rw [hp] at h1; cases h1
  have hb0F : F b0 = none := (h3.has h2 b0 hb0).1
  have hs : Same F (upd H b0 u) := fun b v hb => by
    have hb' : b ≠ b0 := fun z => by rw [z, hb0F] at hb; cases hb
    rw [upd_ne hb']; exact R.sub _ _ hb
  have hhas : ∀ {q b}, Has q o' b → Has q o b := fun {q b} z => z.imp id fun z => hin _ z
  have back : ∀ {j : Nat} {v : O}, (env.set i (some (.ow o')))[j]? = some (some (.ow v)) → ∃ v', env[j]? = some (some (.ow v')) ∧ ∀ q b, Has q v b → Has q v' b := fun {j v} hj => by
    by_cases e : i = j
    · subst e
      rw [List.getElem?_set_self hi] at hj
      cases hj
      exact ⟨o, h, fun q b z => hhas z⟩
    · rw [List.getElem?_set_ne e] at hj; exact ⟨v, hj, fun _ _ z => z⟩
  have own : ∀ b, Own σ (env.set i (some (.ow o'))) b → Own σ env b := fun b ⟨j, v, h6, p', h7, h8⟩ => by
    obtain ⟨v', h9, h10⟩ := back h6
    exact ⟨j, v', h9, p', h7, h10 _ _ h8⟩
  refine ⟨⟨hs, by rw [List.length_set]; exact R.len, fun j d hj => ?_, fun j v hj => ?_, fun j a C ks vs hj => ?_, fun j k v w q hj hk ⟨p1, hj1, hj2⟩ ⟨p2, hk1, hk2⟩ => ?_, R.pin, fun b v hb => ?_, fun j v q hj hn hq => ?_, fun j v b hj hb => ?_, fun b v hb => ?_⟩, ⟨Same.refl _, fun b v hb => .inl hb, fun b v hb hn => ?_, fun b v hb => ?_, fun b hb => .inl (own b hb)⟩⟩
  · by_cases e : i = j
    · subst e
      rw [List.getElem?_set_self hi] at hj
      cases hj
    · rw [List.getElem?_set_ne e] at hj
      exact R.fz j d hj
  · by_cases e : i = j
    · subst e
      rw [List.getElem?_set_self hi] at hj
      cases hj
      exact ⟨p, hp, h2, r⟩
    · rw [List.getElem?_set_ne e] at hj
      obtain ⟨q, h6, h7, h8⟩ := R.ow j v hj
      have hq : ∀ b, Has q v b → b ≠ b0 := fun b hb z => e (R.sep i j _ _ b0 h hj ⟨p, hp, hb0⟩ ⟨q, h6, z ▸ hb⟩)
      exact ⟨q, h6, h7, h8.same (Same.refl _) (upd_ne (hq q .self)) fun b hb => ⟨upd_ne (hq b (.inr hb)), (h8.inner b hb).1⟩⟩
  · by_cases e : i = j
    · subst e
      rw [List.getElem?_set_self hi] at hj
      cases hj
    · rw [List.getElem?_set_ne e] at hj
      exact R.ex j a C ks vs hj
  · obtain ⟨v', hj3, hj4⟩ := back hj
    obtain ⟨w', hk3, hk4⟩ := back hk
    exact R.sep j k v' w' q hj3 hk3 ⟨p1, hj1, hj4 _ _ hj2⟩ ⟨p2, hk1, hk4 _ _ hk2⟩
  · obtain ⟨u', hu⟩ := R.old b v hb
    by_cases e : b = b0
    · exact ⟨u, by rw [e]; exact upd_same⟩
    · exact ⟨u', by rw [upd_ne e]; exact hu⟩
  · obtain ⟨v', hj3, hj4⟩ := back hj
    exact R.fr j v' q hj3 hn hq
  · by_cases e : i = j
    · subst e
      rw [List.getElem?_set_self hi] at hj
      cases hj
      exact R.frN i o b h (hin b hb)
    · rw [List.getElem?_set_ne e] at hj
      exact R.frN j v b hj hb
  · obtain ⟨u', hu⟩ := R.oldN b v hb
    by_cases e : b = b0
    · exact ⟨u, by rw [e]; exact upd_same⟩
    · exact ⟨u', by rw [upd_ne e]; exact hu⟩
  · have : b ≠ b0 := fun z => hn ⟨i, o, h, p, hp, z ▸ hb0⟩
    rw [upd_ne this]; exact hb
  · by_cases e : b = b0
    · subst e; exact ⟨u, upd_same⟩
    · exact ⟨v, by rw [upd_ne e]; exact hb⟩
theorem Rel.write (R : Rel M c F H σ env) {i : Nat} {p : Addr} {o o' : O} {u : HO} (h : env[i]? = some (some (.ow o))) (hp : σ[i]? = some (some (.ref p))) (r : ORep M F (upd H p u) p o') (hin : o'.inn = [] := by rfl) :
    Rel M c F (upd H p u) σ (env.set i (some (.ow o'))) ∧ Evo (Own σ env) (Own σ (env.set i (some (.ow o')))) F H F (upd H p u) := R.writeG h hp .self (fun b hb => by rw [hin] at hb; cases hb) r
/-- a temp that none owns is written -/
theorem Rel.tempW (R : Rel M c F H σ env) {D : Addr} {u : HO} (hF : F D = none) (hn : ¬ Own σ env D) : Rel M c F (upd H D u) σ env := by
  have ht : ∀ b, (∃ u', H b = some u') → ∃ u', upd H D u b = some u' := fun b ⟨u', hu⟩ => by
    by_cases hbd : b = D
    · exact ⟨_, by rw [hbd]; exact upd_same⟩
    · exact ⟨u', by rw [upd_ne hbd]; exact hu⟩
  refine ⟨fun b o hb => ?_, R.len, R.fz, fun j o hj => ?_, R.ex, R.sep, R.pin, fun b v hb => ht b (R.old b v hb), R.fr, R.frN, fun b v hb => ht b (R.oldN b v hb)⟩
  · have : b ≠ D := fun z => by rw [z, hF] at hb; cases hb
    rw [upd_ne this]; exact R.sub b o hb
  · obtain ⟨p, h1, h2, h3⟩ := R.ow j o hj
    have k : ∀ b, Has p o b → b ≠ D := fun b hb z => hn ⟨j, o, hj, p, h1, z ▸ hb⟩
    exact ⟨p, h1, h2, h3.same (Same.refl _) (upd_ne (k p .self)) fun b hb => ⟨upd_ne (k b (.inr hb)), (h3.inner b hb).1⟩⟩
end
end LV
namespace LV
open PySem PySem.Spec L2
abbrev mdX (X : Cx) : Md := ⟨X.K, X.mg, X.w⟩
def Vw (M : Md) (F H : Hp) (v : V) : D → Prop
  | .tup ds => ∃ a xs, v = .ref a ∧ SqT M.K F a xs ∧ RepL M F xs ds
  | .lst ds => ∃ a xs, v = .ref a ∧ H a = some (.lst xs) ∧ RepL M F xs ds
  | .scr ns => ∃ a, v = .ref a ∧ SqL M.K H a (ns.map V.int)
  | .dct ks ds => ∃ a, v = .ref a ∧ ORep M F H a (.dct ks ds)
  | .ins C ks ds => ∃ a, v = .ref a ∧ ORep M F H a (.ins C ks ds)
  | .cls C => ∃ a, v = .ref a ∧ M.mg C = some (.ref a)
  | .ptr a => v = .ref a
  | .exn C ks ds => ∃ a c, v = .ref a ∧ M.mg C = some (.ref c) ∧ ((∃ dx fv, F a = some (exo a c (some dx)) ∧ F dx = some (exd dx fv) ∧ fv.map (·.1) = ks ∧ RepL M F (fv.map (·.2)) ds) ∨ (F a = some (exo a c none) ∧ ks = [] ∧ ds = []))
  | .tpn ds => ∃ a o xs, v = .ref a ∧ F a = some (.frz o (.tup xs)) ∧ o.dict = none ∧ RepL M F xs ds
  | .non => v = .non
  | .bl b => v = .bl b
  | .int i => v = .int i
  | .str s => v = .str s
theorem Rep.vw {M : Md} {F H : Hp} {v : V} {d : D} (s : Same F H) (r : Rep M F v d) : Vw M F H v d := by
  cases r with
  | non => rfl
  | bl b => rfl
  | int i => rfl
  | str x => rfl
  | tup h r => exact ⟨_, _, rfl, h, r⟩
  | lst h r => exact ⟨_, _, rfl, s _ _ h, r⟩
  | scr h => exact ⟨_, rfl, s.seq h⟩
  | cls g => exact ⟨_, rfl, g⟩
  | ptr => rfl
  | tpn h n r => exact ⟨_, _, _, rfl, h, n, r⟩
  | dK h e r => subst e; exact ⟨_, rfl, .inl ⟨_, s _ _ h, rfl, r⟩⟩
  | dN h e1 e2 r1 e3 r2 => exact ⟨_, rfl, .inr ⟨_, _, s _ _ h, e1, e2, r1, e3, r2⟩⟩
  | exn g h1 h2 e r => subst e; exact ⟨_, _, rfl, g, .inl ⟨_, _, h1, h2, rfl, r⟩⟩
  | ex0 g h => exact ⟨_, _, rfl, g, .inr ⟨h, rfl, rfl⟩⟩
  | ins g h e r => subst e; exact ⟨_, rfl, _, _, _, g, s _ _ h, rfl, r⟩
theorem ORep.vw {M : Md} {F H : Hp} {p : Addr} {o : O} (hn : ∀ xs, o ≠ .nst xs) (r : ORep M F H p o) : Vw M F H (.ref p) o.d := by
  cases o with
  | nst xs => exact absurd rfl (hn xs)
  | lst ds => obtain ⟨xs, h, r⟩ := r; exact ⟨_, _, rfl, h, r⟩
  | dct ks ds => exact ⟨_, rfl, r⟩
  | ins C ks ds => exact ⟨_, rfl, r⟩
abbrev XW := Xn → En → Prop
abbrev EW := En → (Rv → En → Prop) → XW → Prop
structure Mono (w : EW) : Prop where
  mo : ∀ {env : En} {Q Q' : Rv → En → Prop} {E E' : XW}, (∀ r e, Q r e → Q' r e) → (∀ x e, E x e → E' x e) → w env Q E → w env Q' E'
/-- v is r, of an expression that began at H0 -/
def RvOk (M : Md) (F H H0 : Hp) (σ : St) (env : En) (v : V) : Rv → Prop
  | .fz d => Rep M F v d
  | .ow o => ∃ p, v = .ref p ∧ F p = none ∧ ORep M F H p o ∧ (∀ b, Has p o b → ¬ Own σ env b) ∧ ∀ b, Has p o b → H0 b = none
  | .sl i => σ[i]? = some (some v) ∧ ∃ o, env[i]? = some (some (.ow o))
def EPost (M : Md) (c : Ct) (F H : Hp) (σ : St) (env : En) (Qv : VK) : Rv → En → Prop := fun r env' =>
  ∀ v F' H', Rel M c F' H' σ env' → Evo (Own σ env) (Own σ env') F H F' H' → RvOk M F' H' H σ env' v r → Qv v H'
def XPost (M : Md) (c : Ct) (W : WX) (F H : Hp) (σ : St) (env : En) : XW := fun x env' =>
  ∀ cl d F' H', Rel M c F' H' σ env' → Evo (Own σ env) (Own σ env') F H F' H' → XOk M F' x cl d → W cl d σ H'
/-- the reading of w -/
def ERd (M : Md) (c : Ct) (W : WX) (w : EW) : TE := fun σ H Qv => ∃ F env, Rel M c F H σ env ∧ w env (EPost M c F H σ env Qv) (XPost M c W F H σ env)
structure SE (X : Cx) (c : Ct) (W : WX) (e : Expr) (w : EW) : Prop where
  pe : PE X e (ERd (mdX X) c W w)
  mo : Mono w
theorem PE.imp {X : Cx} {e : Expr} {t t' : TE} (h : PE X e t) (i : ∀ σ H Q, t' σ H Q → t σ H Q) : PE X e t' := ⟨fun pins s σ H Q I q => h.run pins s σ H Q I (i σ H Q q)⟩
theorem PT.imp {X : Cx} {e : Expr} {t t' : TT} (h : PT X e t) (i : ∀ σ H Q, t' σ H Q → t σ H Q) : PT X e t' := ⟨fun pins s σ H Q I q => h.run pins s σ H Q I (i σ H Q q)⟩
theorem PA.imp {X : Cx} {e : List Expr} {t t' : TA} (h : PA X e t) (i : ∀ σ H Q, t' σ H Q → t σ H Q) : PA X e t' := ⟨fun pos pins s σ H Q I q => h.run pos pins s σ H Q I (i σ H Q q)⟩
theorem PS.imp {X : Cx} {e : Stmt} {t t' : TS} (h : PS X e t) (i : ∀ D σ H, t' D σ H → t D σ H) : PS X e t' := ⟨fun pins s σ H D I q => h.run pins s σ H D I (i D σ H q)⟩
theorem PSs.imp {X : Cx} {e : List Stmt} {t t' : TS} (h : PSs X e t) (i : ∀ D σ H, t' D σ H → t D σ H) : PSs X e t' := ⟨fun pins s σ H D I q => h.run pins s σ H D I (i D σ H q)⟩
section
variable {M : Md} {c : Ct} {W : WX} {F H F1 H1 : Hp} {σ : St} {env env1 : En}
/-- the wishes carried over a first step -/
theorem EPost.step (e : Evo (Own σ env) (Own σ env1) F H F1 H1) {Qv : VK} {r : Rv} {env2 : En} (h : EPost M c F H σ env Qv r env2) : EPost M c F1 H1 σ env1 Qv r env2 := fun v F' H' R' e' ok =>
  h v F' H' R' (e.trans e') (by
    cases r with
    | fz d => exact ok
    | ow o => obtain ⟨p, a1, a2, a3, a4, a5⟩ := ok; exact ⟨p, a1, a2, a3, a4, fun b hb => e.noneOf (a5 b hb)⟩
    | sl i => exact ok)
theorem XPost.step (e : Evo (Own σ env) (Own σ env1) F H F1 H1) {x : Xn} {env2 : En} (h : XPost M c W F H σ env x env2) : XPost M c W F1 H1 σ env1 x env2 := fun cl d F' H' R' e' ok => h cl d F' H' R' (e.trans e') ok
theorem hO {σ : St} {env : En} {p : Addr} {o : O} (h : ¬ Own σ env p) (hi : o.inn = [] := by rfl) : ∀ b, Has p o b → ¬ Own σ env b := has1 (P := fun b => ¬ Own σ env b) hi h
theorem hH {H : Hp} {p : Addr} {o : O} (h : H p = none) (hi : o.inn = [] := by rfl) : ∀ b, Has p o b → H b = none := has1 (P := fun b => H b = none) hi h
/-- a temp is frozen -/
theorem Evo.frzTo {A A' : Addr → Prop} {F H F' H' F2 : Hp} {S : Addr → Prop} (e : Evo A A' F H F' H') (f : FrzTo F' H' F2 S) (h0 : ∀ b, S b → H b = none) : Evo A A' F H F2 H' :=
  ⟨e.fs.trans f.fs, fun b o h => by
    rcases f.fn b o h with h | h
    · exact e.fn b o h
    · exact .inr (.inl (h0 b h)), e.hk, e.ht, e.aa⟩
theorem temp_freeze {F' H' : Hp} {env' : En} {v : V} {o : O} (R' : Rel M c F' H' σ env') (ev : Evo (Own σ env) (Own σ env') F H F' H') (ok : ∃ p, v = .ref p ∧ F' p = none ∧ ORep M F' H' p o ∧ (∀ b, Has p o b → ¬ Own σ env' b) ∧ ∀ b, Has p o b → H b = none) :
    ∃ F2, Rel M c F2 H' σ env' ∧ Evo (Own σ env) (Own σ env') F H F2 H' ∧ Rep M F2 v o.d := by
  obtain ⟨p, rfl, a2, a3, a4, a5⟩ := ok
  obtain ⟨F2, f, rp⟩ := a3.freeze R'.sub a2
  exact ⟨F2, R'.frzTo f a4, ev.frzTo f a5, rp⟩
end
/-- a temp made data -/
def Rv.frz : Rv → Rv
  | .ow o => .fz o.d
  | r => r
def wFz (w : EW) : EW := fun env Q E => w env (fun r e => Q r.frz e) E
theorem Mono.fz {w : EW} (m : Mono w) : Mono (wFz w) := ⟨fun hQ hE h => m.mo (fun r e q => hQ _ _ q) hE h⟩
section
variable {X : Cx} {c : Ct} {W : WX} {e a b : Expr} {w wa wb : EW}
theorem ERd.fz {M : Md} (m : Mono w) {σ : St} {H : Hp} {Q : VK} (h : ERd M c W (wFz w) σ H Q) : ERd M c W w σ H Q := by
  obtain ⟨F, env, R, h⟩ := h
  refine ⟨F, env, R, m.mo (fun r e q => ?_) (fun _ _ q => q) h⟩
  intro v F' H' R' ev ok
  cases r with
  | fz d => exact q v F' H' R' ev ok
  | sl i => exact q v F' H' R' ev ok
  | ow o =>
    obtain ⟨F2, R2, ev2, rp⟩ := temp_freeze R' ev ok
    exact q _ F2 H' R2 ev2 rp
theorem SE.fz (h : SE X c W e w) : SE X c W e (wFz w) := ⟨PE.imp h.pe fun σ H Q q => ERd.fz h.mo q, h.mo.fz⟩
/-- an operand's value: data or a slot's object -/
def look (env : En) : Rv → Option D
  | .fz d => some d
  | .ow o => some o.d
  | .sl i => match env[i]? with
    | some (some (.ow (.nst _))) => none
    | some (some (.ow o)) => some o.d
    | some (some (.fz d)) => some d
    | _ => none
/-- what an operand is, later on -/
def OpOk (M : Md) (F : Hp) (σ : St) (v : V) : Rv → Prop
  | .fz d => Rep M F v d
  | .ow _ => False
  | .sl i => σ[i]? = some (some v)
theorem OpOk.same {M : Md} {F F' : Hp} {σ : St} {v : V} {r : Rv} (s : Same F F') (h : OpOk M F σ v r) : OpOk M F' σ v r := by
  cases r with
  | fz d => exact Rep.same s h
  | ow o => exact h
  | sl i => exact h
theorem OpOk.vw {M : Md} {F H : Hp} {σ : St} {env : En} {v : V} {r : Rv} {d : D} (R : Rel M c F H σ env) (h : OpOk M F σ v r) (l : look env r = some d) : Vw M F H v d := by
  cases r with
  | fz e => cases l; exact Rep.vw R.sub h
  | ow o => exact h.elim
  | sl i =>
    have h' : σ[i]? = some (some v) := h
    cases he : env[i]? with
    | none => simp only [look, he] at l; cases l
    | some x =>
      cases x with
      | none => simp only [look, he] at l; cases l
      | some y =>
        cases y with
        | fz e =>
          simp only [look, he] at l
          cases l
          obtain ⟨u, h1, h2⟩ := R.fz i _ he
          rw [h'] at h1; cases h1
          exact Rep.vw R.sub h2
        | ow o =>
          obtain ⟨p, h1, _, h3⟩ := R.ow i o he
          rw [h'] at h1; cases h1
          cases o with
          | nst xs => simp only [look, he] at l; cases l
          | _ =>
            simp only [look, he] at l
            cases l
            exact h3.vw (fun _ z => nomatch z)
        | ex _ _ _ _ => simp only [look, he] at l; cases l
/-- a primitive's result, from (F, H) -/
def NOk (M : Md) (F' H' H : Hp) (v : V) : Rv → Prop
  | .fz d => Rep M F' v d
  | .ow o => ∃ p, v = .ref p ∧ F' p = none ∧ ORep M F' H' p o ∧ ∀ b, Has p o b → H b = none
  | .sl _ => False
def NPost (M : Md) (F H : Hp) (Qv : VK) : Rv → Prop := fun r => ∀ v F' H', Same F' H' → Evo Nob Nob F H F' H' → NOk M F' H' H v r → Qv v H'
theorem NPost.of {M : Md} {c : Ct} {F H : Hp} {σ : St} {env : En} {Qv : VK} {r : Rv} (R : Rel M c F H σ env) (h : EPost M c F H σ env Qv r env) : NPost M F H Qv r := fun v F' H' s e ok => by
  have R' := R.evo e s
  refine h v F' H' R' e.nob ?_
  cases r with
  | fz d => exact ok
  | sl i => exact ok.elim
  | ow o =>
    obtain ⟨p, a1, a2, a3, a4⟩ := ok
    refine ⟨p, a1, a2, a3, fun b hb z => ?_, a4⟩
    obtain ⟨u, hu⟩ := R.own_some z
    rw [a4 b hb] at hu; cases hu
theorem NPost.here {M : Md} {F H : Hp} {Qv : VK} {d : D} {v : V} (h : NPost M F H Qv (.fz d)) (s : Same F H) (r : Rep M F v d) : Qv v H := h v F H s Evo.refl r
theorem NPost.newT {M : Md} {F H : Hp} {Qv : VK} {ds : List D} {xs : List V} (h : NPost M F H Qv (.fz (.tup ds))) (s : Same F H) (r : RepL M F xs ds) {p : Addr} (hp : H p = none) : Qv (.ref p) (upd H p (.tup xs)) :=
  h _ (upd F p (.tup xs)) _ (same_newF s hp) (Evo.newF hp (s.free hp)) (.tup (.inl (.inl upd_same)) (r.same (same_upd (s.free hp))))
theorem NPost.newL {M : Md} {F H : Hp} {Qv : VK} {ds : List D} {xs : List V} (h : NPost M F H Qv (.ow (.lst ds))) (s : Same F H) (r : RepL M F xs ds) {p : Addr} (hp : H p = none) : Qv (.ref p) (upd H p (.lst xs)) :=
  h _ F _ (same_newO s hp) (Evo.newO hp) ⟨p, rfl, s.free hp, ⟨xs, upd_same, r⟩, has1 (P := fun b => H b = none) rfl hp⟩
abbrev G2 := D → D → (Rv → Prop) → Prop
structure Mono2 (g : G2) : Prop where
  mo : ∀ {a b : D} {Q Q' : Rv → Prop}, (∀ r, Q r → Q' r) → g a b Q → g a b Q'
structure VR2 (X : Cx) (f : Value → Value → Sem Value) (g : G2) : Prop where
  ok : OpR X f (fun x y H Qv => ∃ F da db, Same F H ∧ Vw (mdX X) F H x da ∧ Vw (mdX X) F H y db ∧ g da db (NPost (mdX X) F H Qv))
  mo : Mono2 g
def wOp2 (g : G2) (wa wb : EW) : EW := fun env Q E => wFz wa env (fun ra env1 => wFz wb env1 (fun rb env2 => ∃ da db, look env2 ra = some da ∧ look env2 rb = some db ∧ g da db (fun r => Q r env2)) E) E
theorem Mono.op2 {g : G2} (mg : Mono2 g) (ma : Mono wa) (mb : Mono wb) : Mono (wOp2 g wa wb) := ⟨fun hQ hE h => ma.fz.mo (fun ra e1 q => mb.fz.mo (fun rb e2 ⟨da, db, l1, l2, q⟩ => ⟨da, db, l1, l2, mg.mo (fun r z => hQ _ _ z) q⟩) hE q) hE h⟩
/-- an operand: what is needed behind it -/
theorem opd {M : Md} {F H : Hp} {env : En} {σ : St} {K : Rv → En → Prop} {Qv : VK} (ma : Mono wa) (R : Rel M c F H σ env) (h : wFz wa env K (XPost M c W F H σ env))
    (k : ∀ r env' v F' H', Rel M c F' H' σ env' → Evo (Own σ env) (Own σ env') F H F' H' → OpOk M F' σ v r → K r env' → Qv v H') : ERd M c W wa σ H Qv := by
  refine ⟨F, env, R, ma.mo (fun r e q => ?_) (fun _ _ z => z) h⟩
  intro v F' H' R' ev ok
  cases r with
  | fz d => exact k (.fz d) _ v F' H' R' ev ok q
  | sl i => exact k (.sl i) _ v F' H' R' ev ok.1 q
  | ow o =>
    obtain ⟨F2, R2, ev2, rp⟩ := temp_freeze R' ev ok
    exact k (.fz o.d) _ _ F2 H' R2 ev2 rp q
theorem opd2 {M : Md} {F H : Hp} {env : En} {σ : St} {K : Rv → Rv → En → Prop} {Rv2 : V → V → Hp → Prop} (ma : Mono wa) (mb : Mono wb) (R : Rel M c F H σ env)
    (h : wFz wa env (fun ra env1 => wFz wb env1 (K ra) (XPost M c W F H σ env)) (XPost M c W F H σ env))
    (k : ∀ ra rb env' x y F' H', Rel M c F' H' σ env' → Evo (Own σ env) (Own σ env') F H F' H' → OpOk M F' σ x ra → OpOk M F' σ y rb → K ra rb env' → Rv2 x y H') :
    ERd M c W wa σ H fun x H1 => ERd M c W wb σ H1 fun y H2 => Rv2 x y H2 :=
  opd ma R h fun ra env1 x F1 H1 R1 e1 ok1 q => opd mb R1 (mb.fz.mo (fun _ _ z => z) (fun _ _ z => XPost.step e1 z) q) fun rb env2 y F2 H2 R2 e2 ok2 q2 =>
    k ra rb env2 x y F2 H2 R2 (e1.trans e2) (ok1.same e2.fs) ok2 q2
theorem se_op {op : Operator} {g : G2} {pos : Pos} (ho : VR2 X (binaryOp op) g) (ha : SE X c W a wa) (hb : SE X c W b wb) : SE X c W (.BinOp a op b pos) (wOp2 g wa wb) := by
  refine ⟨PE.imp (pe_op ho.ok ha.pe hb.pe) fun σ H Q h => ?_, .op2 ho.mo ha.mo hb.mo⟩
  obtain ⟨F, env, R, h⟩ := h
  refine opd2 ha.mo hb.mo R h fun ra rb env' x y F' H' R' e o1 o2 q => ?_
  obtain ⟨da, db, l1, l2, q⟩ := q
  exact ⟨F', da, db, R'.sub, o1.vw R' l1, o2.vw R' l2, ho.mo.mo (fun r z => NPost.of R' (EPost.step e z)) q⟩
theorem se_cmp {op : CmpOp} {g : G2} {pos : Pos} (ho : VR2 X (compareOp op) g) (ha : SE X c W a wa) (hb : SE X c W b wb) (hm : behindInMarks op b = false) : SE X c W (.Compare a [op] [b] pos) (wOp2 g wa wb) := by
  refine ⟨PE.imp (pe_cmpR ho.ok ha.pe hb.pe hm) fun σ H Q h => ?_, .op2 ho.mo ha.mo hb.mo⟩
  obtain ⟨F, env, R, h⟩ := h
  refine opd2 ha.mo hb.mo R h fun ra rb env' x y F' H' R' e o1 o2 q => ?_
  obtain ⟨da, db, l1, l2, q⟩ := q
  exact ⟨F', da, db, R'.sub, o1.vw R' l1, o2.vw R' l2, ho.mo.mo (fun r z => NPost.of R' (EPost.step e z)) q⟩
def wVar (i : Nat) : EW := fun env Q _ => match env[i]? with
  | some (some (.fz d)) => Q (.fz d) env
  | some (some (.ow _)) => Q (.sl i) env
  | _ => False
theorem Mono.var {i : Nat} : Mono (wVar i) := ⟨fun {env Q Q' E E'} hQ hE h => by
  unfold wVar at h ⊢
  split at h
  · exact hQ _ _ h
  · exact hQ _ _ h
  · exact h⟩
theorem se_var {i : Nat} {x : Str} {pos : Pos} (hN : X.N[i]? = some x := by rfl) (hv : Vis X.env.scope x := by first | exact Or.inl rfl | exact Or.inr (Or.inl rfl) | exact Or.inr (Or.inr rfl)) (hd : (x == ("__debug__" : Str)) = false := by decide)
    (hcd : (x == ("__classdict__" : Str)) = false := by decide) : SE X c W (.Name x pos) (wVar i) := by
  refine ⟨PE.imp (pe_var hN hv hd hcd) fun σ H Q h => ?_, .var⟩
  obtain ⟨F, env, R, h⟩ := h
  unfold wVar at h
  split at h
  · rename_i d hd
    obtain ⟨v, h1, h2⟩ := R.fz i d hd
    exact ⟨v, h1, h v F H R Evo.refl h2⟩
  · rename_i o ho
    obtain ⟨p, h1, h2, h3⟩ := R.ow i o ho
    exact ⟨_, h1, h _ F H R Evo.refl ⟨h1, o, ho⟩⟩
  · exact h.elim
def wC (d : D) : EW := fun env Q _ => Q (.fz d) env
theorem Mono.C {d : D} : Mono (wC d) := ⟨fun hQ _ h => hQ _ _ h⟩
theorem se_const {v : V} {d : D} (h : PE X e (tC v)) (r : ∀ F, Rep (mdX X) F v d) : SE X c W e (wC d) := by
  refine ⟨PE.imp h fun σ H Q h => ?_, .C⟩
  obtain ⟨F, env, R, h⟩ := h
  exact h v F H R Evo.refl (r F)
theorem se_int {i j pos} : SE X c W (.Constant (.int i) j pos) (wC (.int i)) := se_const pe_int fun _ => .int i
theorem se_bl {i j pos} : SE X c W (.Constant (.bool i) j pos) (wC (.bl i)) := se_const pe_bl fun _ => .bl i
theorem se_non {j pos} : SE X c W (.Constant .none j pos) (wC .non) := se_const pe_non fun _ => .non
end
end LV
namespace LV
open PySem PySem.Spec L2
abbrev TW := En → (Bool → En → Prop) → XW → Prop
structure MonoT (w : TW) : Prop where
  mo : ∀ {env : En} {Q Q' : Bool → En → Prop} {E E' : XW}, (∀ r e, Q r e → Q' r e) → (∀ x e, E x e → E' x e) → w env Q E → w env Q' E'
def TPost (M : Md) (c : Ct) (F H : Hp) (σ : St) (env : En) (Qb : Bool → Hp → Prop) : Bool → En → Prop := fun b env' =>
  ∀ F' H', Rel M c F' H' σ env' → Evo (Own σ env) (Own σ env') F H F' H' → Qb b H'
theorem TPost.step {M : Md} {c : Ct} {F H F1 H1 : Hp} {σ : St} {env env1 : En} (e : Evo (Own σ env) (Own σ env1) F H F1 H1) {Qb : Bool → Hp → Prop} {r : Bool} {env2 : En} (h : TPost M c F H σ env Qb r env2) : TPost M c F1 H1 σ env1 Qb r env2 :=
  fun F' H' R' e' => h F' H' R' (e.trans e')
def TRd (M : Md) (c : Ct) (W : WX) (w : TW) : TT := fun σ H Qb => ∃ F env, Rel M c F H σ env ∧ w env (TPost M c F H σ env Qb) (XPost M c W F H σ env)
structure ST (X : Cx) (c : Ct) (W : WX) (e : Expr) (w : TW) : Prop where
  pt : PT X e (TRd (mdX X) c W w)
  mo : MonoT w
structure SPW (X : Cx) (c : Ct) (W : WX) (e : Expr) (w : TW) : Prop where
  pt : PW X e (TRd (mdX X) c W w)
  mo : MonoT w
theorem PW.imp {X : Cx} {e : Expr} {t t' : TT} (h : PW X e t) (i : ∀ σ H Q, t' σ H Q → t σ H Q) : PW X e t' := ⟨fun wh pins s σ H Q I q => h.run wh pins s σ H Q I (i σ H Q q)⟩
/-- an expression's value that must be True or False -/
def wB (w : EW) : TW := fun env Q E => w env (fun r e => ∃ b, r = .fz (.bl b) ∧ Q b e) E
theorem MonoT.B {w : EW} (m : Mono w) : MonoT (wB w) := ⟨fun hQ hE h => m.mo (fun r e ⟨b, e1, q⟩ => ⟨b, e1, hQ _ _ q⟩) hE h⟩
/-- a value's truth -/
def truD : D → Bool → Prop
  | .non, k => k = false
  | .bl b, k => k = b
  | .int i, k => k = (i != 0)
  | .str s, k => s.length ≤ sizeLine ∧ k = ((s.length : Int) != 0)
  | .tup ds, k => k = !ds.isEmpty
  | .lst ds, k => k = !ds.isEmpty
  | .scr ns, k => k = !ns.isEmpty
  | _, _ => False
def wTru (w : EW) : TW := fun env Q E => wFz w env (fun r e => ∃ d k, look e r = some d ∧ truD d k ∧ Q k e) E
theorem MonoT.tru {w : EW} (m : Mono w) : MonoT (wTru w) := ⟨fun hQ hE h => m.fz.mo (fun r e ⟨d, k, l, t, q⟩ => ⟨d, k, l, t, hQ _ _ q⟩) hE h⟩
theorem isEmpty_rep {M : Md} {F : Hp} {xs : List V} {ds : List D} (r : RepL M F xs ds) : xs.isEmpty = ds.isEmpty := by cases r <;> rfl
theorem truV_of {M : Md} {F H : Hp} {v : V} {d : D} {k : Bool} (sm : Same F H) (h : Vw M F H v d) (t : truD d k) : TruV M.K v H k := by
  cases d with
  | non => cases (show v = .non from h); exact t
  | bl b => cases (show v = .bl b from h); exact t
  | int i => cases (show v = .int i from h); exact t
  | str s => cases (show v = .str s from h); exact t
  | tup ds => obtain ⟨a, xs, rfl, q, r⟩ := h; exact .inr (.inl ⟨xs, Same.sqT sm q, by rw [isEmpty_rep r]; exact t⟩)
  | lst ds => obtain ⟨a, xs, rfl, q, r⟩ := h; exact .inl ⟨xs, .inl (.inl q), by rw [isEmpty_rep r]; exact t⟩
  | scr ns => obtain ⟨a, rfl, q⟩ := h; exact .inl ⟨_, q, by rw [show (ns.map V.int).isEmpty = ns.isEmpty by cases ns <;> rfl]; exact t⟩
  | dct _ _ => exact t.elim
  | ins _ _ _ => exact t.elim
  | cls _ => exact t.elim
  | ptr _ => exact t.elim
  | exn _ _ _ => exact t.elim
  | tpn _ => exact t.elim
section
variable {X : Cx} {c : Ct} {W : WX} {e a b d : Expr} {w wa wb wd : EW} {u ua ub : TW} {pos : Pos} {es rest : List Expr}
theorem TRd.post {M : Md} {F H F1 H1 : Hp} {σ : St} {env env1 : En} {Qb : Bool → Hp → Prop} (m : MonoT u) (R : Rel M c F1 H1 σ env1) (e : Evo (Own σ env) (Own σ env1) F H F1 H1)
    (h : u env1 (TPost M c F H σ env Qb) (XPost M c W F H σ env)) : TRd M c W u σ H1 Qb :=
  ⟨F1, env1, R, m.mo (fun _ _ z => TPost.step e z) (fun _ _ z => XPost.step e z) h⟩
theorem ERd.post {M : Md} {F H F1 H1 : Hp} {σ : St} {env env1 : En} {Qv : VK} (m : Mono w) (R : Rel M c F1 H1 σ env1) (e : Evo (Own σ env) (Own σ env1) F H F1 H1)
    (h : w env1 (EPost M c F H σ env Qv) (XPost M c W F H σ env)) : ERd M c W w σ H1 Qv :=
  ⟨F1, env1, R, m.mo (fun _ _ z => EPost.step e z) (fun _ _ z => XPost.step e z) h⟩
theorem st_tru (h : SE X c W e w) (he : ∀ whole, isTrue e X.env whole = (do let v ← whole; standAt e.pos; holding [v] (truthy v)) := by intro _; rfl) : ST X c W e (wTru w) := by
  refine ⟨PT.imp (pt_truth h.pe he) fun σ H Q q => ?_, .tru h.mo⟩
  obtain ⟨F, env, R, q⟩ := q
  refine opd h.mo R q fun r env' v F' H' R' ev ok ⟨d, k, l, t, q⟩ => ?_
  exact ⟨k, truV_of R'.sub (ok.vw R' l) t, q F' H' R' ev⟩
theorem st_cmp {op : CmpOp} {g : G2} (ho : VR2 X (compareOp op) g) (ha : SE X c W a wa) (hb : SE X c W b wb) (hm : behindInMarks op b = false) : ST X c W (.Compare a [op] [b] pos) (wB (wOp2 g wa wb)) := by
  refine ⟨PT.imp (pt_cmpR ho.ok ha.pe hb.pe hm) fun σ H Q h => ?_, .B (.op2 ho.mo ha.mo hb.mo)⟩
  obtain ⟨F, env, R, h⟩ := h
  refine opd2 (K := fun ra rb env2 => ∃ da db, look env2 ra = some da ∧ look env2 rb = some db ∧ g da db (fun r => ∃ b, r = .fz (.bl b) ∧ TPost (mdX X) c F H σ env Q b env2)) ha.mo hb.mo R h fun ra rb env' x y F' H' R' e o1 o2 q => ?_
  obtain ⟨da, db, l1, l2, q⟩ := q
  refine ⟨F', da, db, R'.sub, o1.vw R' l1, o2.vw R' l2, ho.mo.mo (fun r z => ?_) q⟩
  obtain ⟨k, e1, z⟩ := z
  subst e1
  intro v F'' H'' s ev ok
  cases (show Rep (mdX X) F'' v (.bl k) from ok)
  exact ⟨k, rfl, z F'' H'' (R'.evo ev s) (e.trans ev.nob)⟩
def wtNot (u : TW) : TW := fun env Q E => u env (fun b e => Q (!b) e) E
theorem MonoT.not (m : MonoT u) : MonoT (wtNot u) := ⟨fun hQ hE h => m.mo (fun r e q => hQ _ _ q) hE h⟩
theorem st_not (h : ST X c W a u) : ST X c W (.UnaryOp .Not a pos) (wtNot u) := by
  refine ⟨PT.imp (pt_not h.pt) fun σ H Q q => ?_, .not h.mo⟩
  obtain ⟨F, env, R, q⟩ := q
  exact ⟨F, env, R, q⟩
def wtAnd (u v : TW) : TW := fun env Q E => u env (fun b e => if b = true then v e Q E else Q false e) E
def wtOr (u v : TW) : TW := fun env Q E => u env (fun b e => if b = true then Q true e else v e Q E) E
theorem MonoT.and (m : MonoT ua) (n : MonoT ub) : MonoT (wtAnd ua ub) := ⟨fun hQ hE h => m.mo (fun r e q => by
  cases r with
  | true => exact n.mo hQ hE q
  | false => exact hQ _ _ q) hE h⟩
theorem MonoT.or (m : MonoT ua) (n : MonoT ub) : MonoT (wtOr ua ub) := ⟨fun hQ hE h => m.mo (fun r e q => by
  cases r with
  | false => exact n.mo hQ hE q
  | true => exact hQ _ _ q) hE h⟩
theorem spw_and1 (h : ST X c W a ua) : SPW X c W (.BoolOp .And [a] pos) ua := ⟨pw_and1 h.pt, h.mo⟩
theorem spw_or1 (h : ST X c W a ua) : SPW X c W (.BoolOp .Or [a] pos) ua := ⟨pw_or1 h.pt, h.mo⟩
theorem spw_and (h : ST X c W a ua) (h2 : SPW X c W (.BoolOp .And (b :: rest) pos) ub) : SPW X c W (.BoolOp .And (a :: b :: rest) pos) (wtAnd ua ub) := by
  refine ⟨PW.imp (pw_and h.pt h2.pt) fun σ H Q q => ?_, .and h.mo h2.mo⟩
  obtain ⟨F, env, R, q⟩ := q
  refine ⟨F, env, R, h.mo.mo (fun r e1 q => ?_) (fun _ _ z => z) q⟩
  intro F' H' R' ev
  cases r with
  | true => exact TRd.post h2.mo R' ev q
  | false => exact q F' H' R' ev
theorem spw_or (h : ST X c W a ua) (h2 : SPW X c W (.BoolOp .Or (b :: rest) pos) ub) : SPW X c W (.BoolOp .Or (a :: b :: rest) pos) (wtOr ua ub) := by
  refine ⟨PW.imp (pw_or h.pt h2.pt) fun σ H Q q => ?_, .or h.mo h2.mo⟩
  obtain ⟨F, env, R, q⟩ := q
  refine ⟨F, env, R, h.mo.mo (fun r e1 q => ?_) (fun _ _ z => z) q⟩
  intro F' H' R' ev
  cases r with
  | false => exact TRd.post h2.mo R' ev q
  | true => exact q F' H' R' ev
theorem SPW.st (h : SPW X c W e u) : ST X c W e u := ⟨h.pt.pt, h.mo⟩
def wAnd (wa wb : EW) : EW := fun env Q E => wa env (fun r e => ∃ b, r = .fz (.bl b) ∧ if b = true then wb e Q E else Q (.fz (.bl false)) e) E
def wOr (wa wb : EW) : EW := fun env Q E => wa env (fun r e => ∃ b, r = .fz (.bl b) ∧ if b = true then Q (.fz (.bl true)) e else wb e Q E) E
def wNot (wa : EW) : EW := fun env Q E => wa env (fun r e => ∃ b, r = .fz (.bl b) ∧ Q (.fz (.bl (!b))) e) E
theorem Mono.and (m : Mono wa) (n : Mono wb) : Mono (wAnd wa wb) := ⟨fun hQ hE h => m.mo (fun r e ⟨b, e1, q⟩ => ⟨b, e1, by
  cases b with
  | true => exact n.mo hQ hE q
  | false => exact hQ _ _ q⟩) hE h⟩
theorem Mono.or (m : Mono wa) (n : Mono wb) : Mono (wOr wa wb) := ⟨fun hQ hE h => m.mo (fun r e ⟨b, e1, q⟩ => ⟨b, e1, by
  cases b with
  | false => exact n.mo hQ hE q
  | true => exact hQ _ _ q⟩) hE h⟩
theorem Mono.not (m : Mono wa) : Mono (wNot wa) := ⟨fun hQ hE h => m.mo (fun r e ⟨b, e1, q⟩ => ⟨b, e1, hQ _ _ q⟩) hE h⟩
theorem se_one {op : BoolOp} (h : SE X c W a wa) : SE X c W (.BoolOp op [a] pos) wa := ⟨pe_one h.pe, h.mo⟩
theorem se_and (h : SE X c W a wa) (h2 : SE X c W (.BoolOp .And (b :: rest) pos) wb) : SE X c W (.BoolOp .And (a :: b :: rest) pos) (wAnd wa wb) := by
  refine ⟨PE.imp (pe_and h.pe h2.pe) fun σ H Q q => ?_, .and h.mo h2.mo⟩
  obtain ⟨F, env, R, q⟩ := q
  refine ⟨F, env, R, h.mo.mo (fun r e1 ⟨k, ek, q⟩ => ?_) (fun _ _ z => z) q⟩
  subst ek
  intro v F' H' R' ev ok
  cases (show Rep (mdX X) F' v (.bl k) from ok)
  refine ⟨k, rfl, ?_⟩
  cases k with
  | true => exact ERd.post h2.mo R' ev q
  | false => exact q _ F' H' R' ev (.bl false)
theorem se_or (h : SE X c W a wa) (h2 : SE X c W (.BoolOp .Or (b :: rest) pos) wb) : SE X c W (.BoolOp .Or (a :: b :: rest) pos) (wOr wa wb) := by
  refine ⟨PE.imp (pe_or h.pe h2.pe) fun σ H Q q => ?_, .or h.mo h2.mo⟩
  obtain ⟨F, env, R, q⟩ := q
  refine ⟨F, env, R, h.mo.mo (fun r e1 ⟨k, ek, q⟩ => ?_) (fun _ _ z => z) q⟩
  subst ek
  intro v F' H' R' ev ok
  cases (show Rep (mdX X) F' v (.bl k) from ok)
  refine ⟨k, rfl, ?_⟩
  cases k with
  | false => exact ERd.post h2.mo R' ev q
  | true => exact q _ F' H' R' ev (.bl true)
theorem se_not (h : SE X c W a wa) : SE X c W (.UnaryOp .Not a pos) (wNot wa) := by
  refine ⟨PE.imp (pe_not h.pe) fun σ H Q q => ?_, .not h.mo⟩
  obtain ⟨F, env, R, q⟩ := q
  refine ⟨F, env, R, h.mo.mo (fun r e1 ⟨k, ek, q⟩ => ?_) (fun _ _ z => z) q⟩
  subst ek
  intro v F' H' R' ev ok
  cases (show Rep (mdX X) F' v (.bl k) from ok)
  exact ⟨k, rfl, q _ F' H' R' ev (.bl _)⟩
def wIte (u : TW) (wa wb : EW) : EW := fun env Q E => u env (fun k e => if k = true then wa e Q E else wb e Q E) E
def wChain (g g' : G2) (wa wb wd : EW) : EW := fun env Q E => wFz wa env (fun ra e1 => wFz wb e1 (fun rb e2 => ∃ da db, look e2 ra = some da ∧ look e2 rb = some db ∧ g da db (fun r => ∃ k, r = .fz (.bl k) ∧
  if k = true then wFz wd e2 (fun rd e3 => ∃ db' dd, look e3 rb = some db' ∧ look e3 rd = some dd ∧ g' db' dd (fun r => Q r e3)) E else Q (.fz (.bl false)) e2)) E) E
abbrev AW := En → (List Rv → En → Prop) → XW → Prop
structure MonoA (w : AW) : Prop where
  mo : ∀ {env : En} {Q Q' : List Rv → En → Prop} {E E' : XW}, (∀ r e, Q r e → Q' r e) → (∀ x e, E x e → E' x e) → w env Q E → w env Q' E'
def OpsOk (M : Md) (F : Hp) (σ : St) : List V → List Rv → Prop
  | [], [] => True
  | v :: vs, r :: rs => OpOk M F σ v r ∧ OpsOk M F σ vs rs
  | _, _ => False
theorem OpsOk.same {M : Md} {F F' : Hp} {σ : St} (s : Same F F') : ∀ {vs : List V} {rs : List Rv}, OpsOk M F σ vs rs → OpsOk M F' σ vs rs
  | [], [], _ => True.intro
  | _ :: _, _ :: _, ⟨h, r⟩ => ⟨h.same s, OpsOk.same s r⟩
  | [], _ :: _, h => h.elim
  | _ :: _, [], h => h.elim
def APost (M : Md) (c : Ct) (F H : Hp) (σ : St) (env : En) (Q : List V → Hp → Prop) : List Rv → En → Prop := fun rs env' =>
  ∀ vs F' H', Rel M c F' H' σ env' → Evo (Own σ env) (Own σ env') F H F' H' → OpsOk M F' σ vs rs → Q vs H'
def ARd (M : Md) (c : Ct) (W : WX) (w : AW) : TA := fun σ H Q => ∃ F env, Rel M c F H σ env ∧ w env (APost M c F H σ env Q) (XPost M c W F H σ env)
structure SA (X : Cx) (c : Ct) (W : WX) (es : List Expr) (w : AW) : Prop where
  pa : PA X es (ARd (mdX X) c W w)
  mo : MonoA w
def wNil : AW := fun env Q _ => Q [] env
def wCons (w : EW) (wl : AW) : AW := fun env Q E => wFz w env (fun r e => wl e (fun rs e2 => Q (r :: rs) e2) E) E
theorem sa_nil : SA X c W [] wNil := ⟨PA.imp pa_nil fun σ H Q h => by
  obtain ⟨F, env, R, h⟩ := h
  exact h [] F H R Evo.refl True.intro, ⟨fun hQ _ h => hQ _ _ h⟩⟩
theorem sa_cons {wl : AW} (h : SE X c W e w) (h2 : SA X c W es wl) (hs : starEach (e :: es) X.env = (false, eval e X.env) :: starEach es X.env := by rfl) : SA X c W (e :: es) (wCons w wl) := by
  refine ⟨PA.imp (pa_cons h.pe h2.pa hs) fun σ H Q q => ?_, ⟨fun hQ hE q => h.mo.fz.mo (fun r e q => h2.mo.mo (fun rs e q => hQ _ _ q) hE q) hE q⟩⟩
  obtain ⟨F, env, R, q⟩ := q
  refine opd h.mo R q fun r e1 v F1 H1 R1 ev1 ok1 q1 => ?_
  refine ⟨F1, e1, R1, h2.mo.mo (fun rs e2 q2 => ?_) (fun _ _ z => XPost.step ev1 z) q1⟩
  intro vs F2 H2 R2 ev2 ok2
  exact q2 (v :: vs) F2 H2 R2 (ev1.trans ev2) ⟨ok1.same ev2.fs, ok2⟩
def lookL (env : En) : List Rv → Option (List D)
  | [] => some []
  | r :: rs => match look env r, lookL env rs with
    | some d, some ds => some (d :: ds)
    | _, _ => none
def VwL (M : Md) (F H : Hp) : List V → List D → Prop
  | [], [] => True
  | v :: vs, d :: ds => Vw M F H v d ∧ VwL M F H vs ds
  | _, _ => False
theorem OpsOk.vw {M : Md} {F H : Hp} {σ : St} {env : En} (R : Rel M c F H σ env) : ∀ {vs : List V} {rs : List Rv} {ds : List D}, OpsOk M F σ vs rs → lookL env rs = some ds → VwL M F H vs ds
  | [], [], _, _, l => by cases l; exact True.intro
  | v :: vs, r :: rs, ds, ⟨h, t⟩, l => by
    unfold lookL at l
    cases h1 : look env r with
    | none => rw [h1] at l; cases l
    | some x =>
      cases h2 : lookL env rs with
      | none => rw [h1, h2] at l; cases l
      | some xs =>
        rw [h1, h2] at l
        cases l
        exact ⟨h.vw R h1, OpsOk.vw R t h2⟩
  | [], _ :: _, _, h, _ => h.elim
  | _ :: _, [], _, h, _ => h.elim
abbrev GL := List D → (Rv → Prop) → Prop
structure MonoL (g : GL) : Prop where
  mo : ∀ {ds : List D} {Q Q' : Rv → Prop}, (∀ r, Q r → Q' r) → g ds Q → g ds Q'
structure VRL (X : Cx) (f : Value) (g : GL) : Prop where
  ok : CallR X f (fun vs H Qv => ∃ F ds, Same F H ∧ VwL (mdX X) F H vs ds ∧ g ds (NPost (mdX X) F H Qv))
  mo : MonoL g
def wBlt (g : GL) (wl : AW) : EW := fun env Q E => wl env (fun rs e => ∃ ds, lookL e rs = some ds ∧ g ds (fun r => Q r e)) E
theorem Mono.blt {g : GL} {wl : AW} (mg : MonoL g) (ml : MonoA wl) : Mono (wBlt g wl) := ⟨fun hQ hE h => ml.mo (fun rs e ⟨ds, l, q⟩ => ⟨ds, l, mg.mo (fun r z => hQ _ _ z) q⟩) hE h⟩
theorem blt_core {M : Md} {g : GL} {wl : AW} (mg : MonoL g) (ml : MonoA wl) {σ : St} {H : Hp} {Q : VK} (h : ERd M c W (wBlt g wl) σ H Q) :
    ARd M c W wl σ H fun vs H1 => ∃ F ds, Same F H1 ∧ VwL M F H1 vs ds ∧ g ds (NPost M F H1 Q) := by
  obtain ⟨F, env, R, h⟩ := h
  refine ⟨F, env, R, ml.mo (fun rs e ⟨ds, l, q⟩ => ?_) (fun _ _ z => z) h⟩
  intro vs F' H' R' ev ok
  exact ⟨F', ds, R'.sub, ok.vw R' l, mg.mo (fun r z => NPost.of R' (EPost.step ev z)) q⟩
theorem se_callB {x : Str} {p : Pos} {id : String} {g : GL} {wl : AW} (hc : VRL X (.builtin id) g) (hg : Gl X x) (hm : X.mg x = none) (hv : bootBuiltins x = some (.builtin id)) (ha : SA X c W (e :: es) wl)
    (hn : x ≠ "__name__" := by decide) (hdb : (x == ("__debug__" : Str)) = false := by decide) (hst : starEach (e :: es) X.env = (false, eval e X.env) :: starEach es X.env := by rfl) (hpl : (backTo pos (starEach es X.env)).any (·.1) = false := by rfl) :
    SE X c W (.Call (.Name x p) (e :: es) [] pos) (wBlt g wl) :=
  ⟨PE.imp (pe_callB hc.ok hg hm hv ha.pa hn hdb hst hpl) fun σ H Q h => blt_core hc.mo ha.mo h, .blt hc.mo ha.mo⟩
theorem se_callTy {x : Str} {p : Pos} {T : String} {g : GL} {wl : AW} (hc : VRL X (.type T) g) (hg : Gl X x) (hm : X.mg x = none) (hv : bootBuiltins x = some (.type T)) (ha : SA X c W (e :: es) wl)
    (hn : x ≠ "__name__" := by decide) (hdb : (x == ("__debug__" : Str)) = false := by decide) (hst : starEach (e :: es) X.env = (false, eval e X.env) :: starEach es X.env := by rfl) (hpl : (backTo pos (starEach es X.env)).any (·.1) = false := by rfl) :
    SE X c W (.Call (.Name x p) (e :: es) [] pos) (wBlt g wl) :=
  ⟨PE.imp (pe_callTy hc.ok hg hm hv ha.pa hn hdb hst hpl) fun σ H Q h => blt_core hc.mo ha.mo h, .blt hc.mo ha.mo⟩
end
end LV
namespace LV
open PySem PySem.Spec L2
def frz1 (env : En) : Rv → Option (D × En)
  | .fz d => some (d, env)
  | .ow o => none
  | .sl i => match env[i]? with
    | some (some (.ow o)) => some (o.d, env.set i (some (.fz o.d)))
    | some (some (.fz d)) => some (d, env)
    | _ => none
def frzL (env : En) : List Rv → Option (List D × En)
  | [] => some ([], env)
  | r :: rs => match frz1 env r with
    | none => none
    | some (d, e1) => match frzL e1 rs with
      | none => none
      | some (ds, e2) => some (d :: ds, e2)
section
variable {M : Md} {c : Ct} {F H : Hp} {σ : St} {env env' : En}
theorem frz1_ok {v : V} {r : Rv} {d : D} (R : Rel M c F H σ env) (h : OpOk M F σ v r) (e : frz1 env r = some (d, env')) :
    ∃ F', Rel M c F' H σ env' ∧ Evo (Own σ env) (Own σ env') F H F' H ∧ Rep M F' v d := by
  cases r with
  | fz d' => cases e; exact ⟨F, R, Evo.refl, h⟩
  | ow o => cases e
  | sl i =>
    have h' : σ[i]? = some (some v) := h
    cases he : env[i]? with
    | none => simp only [frz1, he] at e; cases e
    | some x =>
      cases x with
      | none => simp only [frz1, he] at e; cases e
      | some y =>
        cases y with
        | ex _ _ _ _ => simp only [frz1, he] at e; cases e
        | fz d' =>
          simp only [frz1, he] at e
          cases e
          obtain ⟨u, h1, h2⟩ := R.fz i _ he
          rw [h'] at h1; cases h1
          exact ⟨F, R, Evo.refl, h2⟩
        | ow o =>
          simp only [frz1, he] at e
          cases e
          obtain ⟨p, F', h1, R', r, ev, _⟩ := R.freeze he
          rw [h'] at h1; cases h1
          exact ⟨F', R', ev, r⟩
theorem frzL_ok : ∀ {vs : List V} {rs : List Rv} {ds : List D} {F : Hp} {env env' : En}, Rel M c F H σ env → OpsOk M F σ vs rs → frzL env rs = some (ds, env') →
    ∃ F', Rel M c F' H σ env' ∧ Evo (Own σ env) (Own σ env') F H F' H ∧ RepL M F' vs ds
  | [], [], _, F, env, _, R, _, e => by cases e; exact ⟨F, R, Evo.refl, .nil⟩
  | v :: vs, r :: rs, ds, F, env, env', R, ⟨h, t⟩, e => by
    unfold frzL at e
    cases e1 : frz1 env r with
    | none => rw [e1] at e; cases e
    | some p =>
      obtain ⟨d, en1⟩ := p
      rw [e1] at e
      cases e2 : frzL en1 rs with
      | none => simp only [e2] at e; cases e
      | some q =>
        obtain ⟨ds', en2⟩ := q
        simp only [e2] at e
        cases e
        obtain ⟨F1, R1, ev1, r1⟩ := frz1_ok R h e1
        obtain ⟨F2, R2, ev2, r2⟩ := frzL_ok R1 (t.same ev1.fs) e2
        exact ⟨F2, R2, ev1.trans ev2, .cons (r1.same ev2.fs) r2⟩
  | [], _ :: _, _, _, _, _, _, h, _ => h.elim
  | _ :: _, [], _, _, _, _, _, h, _ => h.elim
end
section
variable {X : Cx} {c : Ct} {W : WX} {e a b : Expr} {w wa wb : EW} {wl : AW} {pos : Pos} {es : List Expr}
def wTup (wl : AW) : EW := fun env Q E => wl env (fun rs e => ∃ ds e', frzL e rs = some (ds, e') ∧ ds.length ≤ sizeLine ∧ Q (.fz (.tup ds)) e') E
def wLst (wl : AW) : EW := fun env Q E => wl env (fun rs e => ∃ ds e', frzL e rs = some (ds, e') ∧ ds.length ≤ sizeLine ∧ Q (.ow (.lst ds)) e') E
theorem Mono.tup (m : MonoA wl) : Mono (wTup wl) := ⟨fun hQ hE h => m.mo (fun rs e ⟨ds, e', l, z, q⟩ => ⟨ds, e', l, z, hQ _ _ q⟩) hE h⟩
theorem Mono.lst (m : MonoA wl) : Mono (wLst wl) := ⟨fun hQ hE h => m.mo (fun rs e ⟨ds, e', l, z, q⟩ => ⟨ds, e', l, z, hQ _ _ q⟩) hE h⟩
theorem Rel.notOwn {M : Md} {F H : Hp} {σ : St} {env : En} (R : Rel M c F H σ env) {p : Addr} (hp : H p = none) : ¬ Own σ env p := fun z => by
  obtain ⟨u, hu⟩ := R.own_some z
  rw [hp] at hu; cases hu
theorem se_tup {k : Nat} (h : SA X c W es wl) : SE X c W (.Tuple es k pos) (wTup wl) := by
  refine ⟨PE.imp (pe_tup h.pa) fun σ H Q q => ?_, .tup h.mo⟩
  obtain ⟨F, env, R, q⟩ := q
  refine ⟨F, env, R, h.mo.mo (fun rs e ⟨ds, e', l, z, q⟩ => ?_) (fun _ _ z => z) q⟩
  intro vs F1 H1 R1 ev1 ok1
  obtain ⟨F2, R2, ev2, rl⟩ := frzL_ok R1 ok1 l
  refine ⟨by rw [rl.length]; exact z, fun p hp => ?_⟩
  have s := R2.sub
  have ev := (Evo.newF (o := .tup vs) hp (s.free hp))
  exact q _ _ _ (R2.evo ev (same_newF s hp)) ((ev1.trans ev2).trans ev.nob) (.tup (.inl (.inl upd_same)) (rl.same ev.fs))
theorem se_lst (h : SA X c W es wl) : SE X c W (.List es pos) (wLst wl) := by
  refine ⟨PE.imp (pe_lst h.pa) fun σ H Q q => ?_, .lst h.mo⟩
  obtain ⟨F, env, R, q⟩ := q
  refine ⟨F, env, R, h.mo.mo (fun rs e ⟨ds, e', l, z, q⟩ => ?_) (fun _ _ z => z) q⟩
  intro vs F1 H1 R1 ev1 ok1
  obtain ⟨F2, R2, ev2, rl⟩ := frzL_ok R1 ok1 l
  refine ⟨by rw [rl.length]; exact z, fun p hp => ?_⟩
  have s := R2.sub
  have ev : Evo Nob Nob F2 H1 F2 (upd H1 p (.lst vs)) := Evo.newO hp
  exact q _ _ _ (R2.evo ev (same_newO s hp)) ((ev1.trans ev2).trans ev.nob) ⟨p, rfl, s.free hp, ⟨vs, upd_same, rl⟩, hO (R2.notOwn hp), hH ((ev1.trans ev2).noneOf hp)⟩
structure VIx (X : Cx) (g : G2) : Prop where
  ok : IxR X (fun x y H Qv => ∃ F da db, Same F H ∧ Vw (mdX X) F H x da ∧ Vw (mdX X) F H y db ∧ g da db (NPost (mdX X) F H Qv))
  mo : Mono2 g
theorem se_ix {g : G2} (ho : VIx X g) (ha : SE X c W a wa) (hb : SE X c W b wb) (hs : PlainIx b := by exact fun _ _ => rfl) : SE X c W (.Subscript a b pos) (wOp2 g wa wb) := by
  refine ⟨PE.imp (pe_ix ho.ok ha.pe hb.pe hs) fun σ H Q h => ?_, .op2 ho.mo ha.mo hb.mo⟩
  obtain ⟨F, env, R, h⟩ := h
  refine opd2 ha.mo hb.mo R h fun ra rb env' x y F' H' R' e o1 o2 q => ?_
  obtain ⟨da, db, l1, l2, q⟩ := q
  exact ⟨F', da, db, R'.sub, o1.vw R' l1, o2.vw R' l2, ho.mo.mo (fun r z => NPost.of R' (EPost.step e z)) q⟩
abbrev OW := En → (Option Int → En → Prop) → XW → Prop
structure MonoO (w : OW) : Prop where
  mo : ∀ {env : En} {Q Q' : Option Int → En → Prop} {E E' : XW}, (∀ r e, Q r e → Q' r e) → (∀ x e, E x e → E' x e) → w env Q E → w env Q' E'
def ORd (M : Md) (c : Ct) (W : WX) (w : OW) : TO := fun σ H Q => ∃ F env, Rel M c F H σ env ∧ w env (fun o env' => ∀ F' H', Rel M c F' H' σ env' → Evo (Own σ env) (Own σ env') F H F' H' → Q o H') (XPost M c W F H σ env)
structure SO (X : Cx) (c : Ct) (W : WX) (e : Option Expr) (w : OW) : Prop where
  po : PO X e (ORd (mdX X) c W w)
  mo : MonoO w
theorem PO.imp {X : Cx} {e : Option Expr} {t t' : TO} (h : PO X e t) (i : ∀ σ H Q, t' σ H Q → t σ H Q) : PO X e t' := ⟨fun pins s σ H Q I q => h.run pins s σ H Q I (i σ H Q q)⟩
def wNoP : OW := fun env Q _ => Q none env
def wPt (w : EW) : OW := fun env Q E => w env (fun r e => ∃ i, r = .fz (.int i) ∧ Q (some i) e) E
theorem so_none : SO X c W none wNoP := ⟨PO.imp po_none fun σ H Q h => by
  obtain ⟨F, env, R, h⟩ := h
  exact h F H R Evo.refl, ⟨fun hQ _ h => hQ _ _ h⟩⟩
theorem so_some (h : SE X c W e w) : SO X c W (some e) (wPt w) := by
  refine ⟨PO.imp (po_some h.pe) fun σ H Q q => ?_, ⟨fun hQ hE q => h.mo.mo (fun r e ⟨i, e1, q⟩ => ⟨i, e1, hQ _ _ q⟩) hE q⟩⟩
  obtain ⟨F, env, R, q⟩ := q
  refine ⟨F, env, R, h.mo.mo (fun r e1 ⟨i, ei, q⟩ => ?_) (fun _ _ z => z) q⟩
  subst ei
  intro v F' H' R' ev ok
  cases (show Rep (mdX X) F' v (.int i) from ok)
  exact ⟨i, rfl, q F' H' R' ev⟩
def cutD (ds : List D) (lo hi : Option Int) : List D := (ds.drop (HT.sIx ds.length 0 lo)).take (HT.sIx ds.length ds.length hi - HT.sIx ds.length 0 lo)
theorem RepL.cut {M : Md} {F : Hp} {xs : List V} {ds : List D} (r : RepL M F xs ds) (lo hi : Option Int) : RepL M F (cutV xs lo hi) (cutD ds lo hi) := by
  unfold cutV cutD
  rw [r.length]
  exact (r.drop _).take _
def gSl (d : D) (lo hi : Option Int) (Q : Rv → Prop) : Prop :=
  match d with
  | .tup ds => Q (.fz (.tup (cutD ds lo hi)))
  | .lst ds => Q (.ow (.lst (cutD ds lo hi)))
  | .scr ns => Q (.ow (.lst (cutD (ns.map D.int) lo hi)))
  | .str z => z.length ≤ sizeLine ∧ Q (.fz (.str (cutS z lo hi)))
  | _ => False
theorem gSl_mono {d : D} {lo hi : Option Int} {Q Q' : Rv → Prop} (h : ∀ r, Q r → Q' r) (q : gSl d lo hi Q) : gSl d lo hi Q' := by
  cases d with
  | tup ds => exact h _ q
  | lst ds => exact h _ q
  | scr ds => exact h _ q
  | str z => exact ⟨q.1, h _ q.2⟩
  | _ => exact q
theorem cut_ints (ns : List Int) (lo hi : Option Int) : RepL M F (cutV (ns.map V.int) lo hi) (cutD (ns.map D.int) lo hi) := RepL.cut (RepL.of_ints ns) lo hi
theorem sl_any : SlR X (fun x lo hi H Qv => ∃ F d, Same F H ∧ Vw (mdX X) F H x d ∧ gSl d lo hi (NPost (mdX X) F H Qv)) := by
  intro pins s σ H x v vl vu lo hi sl Q I rx hs pl pu h
  obtain ⟨F, d, sm, vw, q⟩ := h
  cases d with
  | tup ds =>
    obtain ⟨a, xs, rfl, hx, r⟩ := vw
    refine sl_tupA pins s σ H _ v vl vu lo hi sl Q I rx hs pl pu ⟨a, xs, rfl, Same.sqT sm hx, fun hw => ?_, fun hw p hp => NPost.newT q sm (r.cut lo hi) hp⟩
    have e : cutD ds lo hi = ds := by
      have h' : HT.sIx ds.length 0 lo = 0 ∧ HT.sIx ds.length ds.length hi = ds.length := by rw [← r.length]; exact hw
      unfold cutD
      rw [h'.1, h'.2]
      simp
    have q' : NPost (mdX X) F H Q (.fz (.tup ds)) := by rw [← e]; exact q
    exact NPost.here q' sm (.tup hx r)
  | lst ds =>
    obtain ⟨a, xs, rfl, hx, r⟩ := vw
    exact sl_list pins s σ H _ v vl vu lo hi sl Q I rx hs pl pu ⟨a, xs, rfl, .inl (.inl hx), fun p hp => NPost.newL q sm (r.cut lo hi) hp⟩
  | scr ns =>
    obtain ⟨a, rfl, hx⟩ := vw
    exact sl_list pins s σ H _ v vl vu lo hi sl Q I rx hs pl pu ⟨a, _, rfl, hx, fun p hp => NPost.newL q sm (cut_ints ns lo hi) hp⟩
  | str z =>
    cases (show x = .str z from vw)
    exact sl_str pins s σ H _ v vl vu lo hi sl Q I rx hs pl pu ⟨z, rfl, q.1, NPost.here q.2 sm (.str _)⟩
  | _ => exact q.elim
def wSl (w : EW) (wl wh : OW) : EW := fun env Q E => wFz w env (fun r e1 => wl e1 (fun lo e2 => wh e2 (fun hi e3 => ∃ d, look e3 r = some d ∧ gSl d lo hi (fun r => Q r e3)) E) E) E
theorem se_sl {lo hi : Option Expr} {ul uh : OW} {p2 : Pos} (h : SE X c W e w) (hl : SO X c W lo ul) (hh : SO X c W hi uh) : SE X c W (.Subscript e (.Slice lo hi none p2) pos) (wSl w ul uh) := by
  refine ⟨PE.imp (pe_slice sl_any h.pe hl.po hh.po) fun σ H Q q => ?_, ⟨fun hQ hE q => h.mo.fz.mo (fun r e q => hl.mo.mo (fun lo e q => hh.mo.mo (fun hi e ⟨d, l, q⟩ => ⟨d, l, gSl_mono (fun _ z => hQ _ _ z) q⟩) hE q) hE q) hE q⟩⟩
  obtain ⟨F, env, R, q⟩ := q
  refine opd h.mo R q fun r e1 v F1 H1 R1 ev1 ok1 q1 => ?_
  refine ⟨F1, e1, R1, hl.mo.mo (fun lo e2 q2 => ?_) (fun _ _ z => XPost.step ev1 z) q1⟩
  intro F2 H2 R2 ev2
  refine ⟨F2, e2, R2, hh.mo.mo (fun hi e3 q3 => ?_) (fun _ _ z => XPost.step (ev1.trans ev2) z) q2⟩
  intro F3 H3 R3 ev3
  obtain ⟨d, l, q3⟩ := q3
  exact ⟨F3, d, R3.sub, (ok1.same (ev2.fs.trans ev3.fs)).vw R3 l, gSl_mono (fun r z => NPost.of R3 (EPost.step ((ev1.trans ev2).trans ev3) z)) q3⟩
/-- what a def keeps: arguments, what follows (the result, the arguments afterwards), what follows a raise -/
abbrev FSpec := List Val → (Rv → List Val → Prop) → (Xn → List Val → Prop) → Prop
structure MonoF (S : FSpec) : Prop where
  mo : ∀ {args : List Val} {Q Q' : Rv → List Val → Prop} {E E' : Xn → List Val → Prop}, (∀ r e, Q r e → Q' r e) → (∀ x e, E x e → E' x e) → S args Q E → S args Q' E'
def sV (vs : List V) : St := vs.map some
def eV (args : List Val) : En := args.map some
def toSp (M : Md) (S : FSpec) : Sp := fun vs H Q E => ∃ F args, Rel M (ctN H) F H (sV vs) (eV args) ∧ S args
  (fun r args' => ∀ v F' H', Rel M (ctN H) F' H' (sV vs) (eV args') → Evo (Own (sV vs) (eV args)) (Own (sV vs) (eV args')) F H F' H' → RvOk M F' H' H (sV vs) (eV args') v r → Q v H')
  (fun x args' => ∀ cl d F' H', Rel M (ctN H) F' H' (sV vs) (eV args') → Evo (Own (sV vs) (eV args)) (Own (sV vs) (eV args')) F H F' H' → XOk M F' x cl d → E cl d H')
/-- an argument as it is handed over -/
def valOf (env : En) : Rv → Option Val
  | .fz d => some (.fz d)
  | .ow _ => none
  | .sl i => match env[i]? with
    | some (some (.ow (.nst _))) => none
    | some (some (.ow o)) => some (.ow o)
    | some (some (.fz d)) => some (.fz d)
    | _ => none
def valL (env : En) : List Rv → Option (List Val)
  | [] => some []
  | r :: rs => match valOf env r, valL env rs with
    | some a, some as => some (a :: as)
    | _, _ => none
/-- the slots that are handed over, each once -/
def slotsOf : List Rv → List Nat
  | [] => []
  | .sl i :: rs => i :: slotsOf rs
  | _ :: rs => slotsOf rs
def putL (env : En) : List Rv → List Val → En
  | .sl i :: rs, a :: as => (putL env rs as).set i (some a)
  | _ :: rs, _ :: as => putL env rs as
  | _, _ => env
/-- behind a call: data has stayed data -/
def backOk : List Val → List Val → Bool
  | [], [] => true
  | .fz _ :: as, .fz _ :: bs => backOk as bs
  | .ow _ :: as, .fz _ :: bs => backOk as bs
  | .ow _ :: as, .ow _ :: bs => backOk as bs
  | _, _ => false
theorem backOk_len : ∀ {as bs : List Val}, backOk as bs = true → bs.length = as.length
  | [], [], _ => rfl
  | .fz _ :: as, .fz _ :: bs, h => by rw [List.length_cons, List.length_cons, backOk_len (as := as) (bs := bs) h]
  | .ow _ :: as, .fz _ :: bs, h => by rw [List.length_cons, List.length_cons, backOk_len (as := as) (bs := bs) h]
  | .ow _ :: as, .ow _ :: bs, h => by rw [List.length_cons, List.length_cons, backOk_len (as := as) (bs := bs) h]
theorem backOk_ow : ∀ {as bs : List Val} {k : Nat} {a : Val} {o : O}, backOk as bs = true → as[k]? = some a → bs[k]? = some (.ow o) → ∃ o', a = .ow o'
  | [], [], k, a, o, _, e, _ => by simp at e
  | .fz _ :: as, .fz _ :: bs, 0, a, o, h, _, e => by simp at e
  | .ow o' :: as, .fz _ :: bs, 0, a, o, h, _, e => by simp at e
  | .ow o' :: as, .ow _ :: bs, 0, a, o, h, e, _ => by simp at e; exact ⟨o', e.symm⟩
  | .fz _ :: as, .fz _ :: bs, k + 1, a, o, h, e, e' => backOk_ow (as := as) (bs := bs) (k := k) h (by simpa using e) (by simpa using e')
  | .ow _ :: as, .fz _ :: bs, k + 1, a, o, h, e, e' => backOk_ow (as := as) (bs := bs) (k := k) h (by simpa using e) (by simpa using e')
  | .ow _ :: as, .ow _ :: bs, k + 1, a, o, h, e, e' => backOk_ow (as := as) (bs := bs) (k := k) h (by simpa using e) (by simpa using e')
def wCall (S : FSpec) (wl : AW) : EW := fun env Q E => wl env (fun rs e => ∃ args, valL e rs = some args ∧ (slotsOf rs).Nodup ∧ S args (fun r args' => backOk args args' = true ∧ (∀ i, r ≠ .sl i) ∧ Q r (putL e rs args')) (fun x args' => backOk args args' = true ∧ E x (putL e rs args'))) E
theorem Mono.call {S : FSpec} (mS : MonoF S) (ml : MonoA wl) : Mono (wCall S wl) := ⟨fun hQ hE h => ml.mo (fun rs e ⟨args, l, n, q⟩ => ⟨args, l, n, mS.mo (fun _ _ ⟨a, n, z⟩ => ⟨a, n, hQ _ _ z⟩) (fun _ _ ⟨a, z⟩ => ⟨a, hE _ _ z⟩) q⟩) hE h⟩
end
end LV
namespace LV
open PySem PySem.Spec L2
section
variable {M : Md} {c : Ct} {F H F' H' : Hp} {σ : St} {env : En} {vs : List V} {rs : List Rv} {args args' : List Val}
theorem valL_len : ∀ {rs : List Rv} {args : List Val}, valL env rs = some args → args.length = rs.length
  | [], _, h => by cases h; rfl
  | r :: rs, args, h => by
    unfold valL at h
    cases h1 : valOf env r with
    | none => rw [h1] at h; cases h
    | some a =>
      cases h2 : valL env rs with
      | none => rw [h1, h2] at h; cases h
      | some as => rw [h1, h2] at h; cases h; rw [List.length_cons, List.length_cons, valL_len h2]
theorem valL_get : ∀ {rs : List Rv} {args : List Val} {k : Nat} {a : Val}, valL env rs = some args → args[k]? = some a → ∃ r, rs[k]? = some r ∧ valOf env r = some a
  | [], _, k, a, h, e => by cases h; simp at e
  | r :: rs, args, k, a, h, e => by
    unfold valL at h
    cases h1 : valOf env r with
    | none => rw [h1] at h; cases h
    | some b =>
      cases h2 : valL env rs with
      | none => rw [h1, h2] at h; cases h
      | some as =>
        rw [h1, h2] at h; cases h
        cases k with
        | zero => simp at e; subst e; exact ⟨r, rfl, h1⟩
        | succ k => exact valL_get (k := k) h2 (by simpa using e)
theorem ops_len : ∀ {vs : List V} {rs : List Rv}, OpsOk M F σ vs rs → vs.length = rs.length
  | [], [], _ => rfl
  | _ :: _, _ :: _, ⟨_, t⟩ => by rw [List.length_cons, List.length_cons, ops_len t]
  | [], _ :: _, h => h.elim
  | _ :: _, [], h => h.elim
theorem ops_get : ∀ {vs : List V} {rs : List Rv} {k : Nat} {r : Rv}, OpsOk M F σ vs rs → rs[k]? = some r → ∃ v, vs[k]? = some v ∧ OpOk M F σ v r
  | [], [], k, r, _, e => by simp at e
  | v :: _, _ :: _, 0, r, ⟨h, _⟩, e => by simp at e; subst e; exact ⟨v, rfl, h⟩
  | _ :: _, _ :: _, k + 1, r, ⟨_, t⟩, e => ops_get (k := k) t (by simpa using e)
  | [], _ :: _, _, _, h, _ => h.elim
  | _ :: _, [], _, _, h, _ => h.elim
theorem mem_slots : ∀ {rs : List Rv} {k i : Nat}, rs[k]? = some (.sl i) → i ∈ slotsOf rs
  | [], k, i, e => by simp at e
  | r :: rs, 0, i, e => by simp at e; subst e; exact List.mem_cons_self
  | r :: rs, k + 1, i, e => by
    have := mem_slots (rs := rs) (k := k) (i := i) (by simpa using e)
    cases r with
    | fz _ => exact this
    | ow _ => exact this
    | sl j => exact List.mem_cons_of_mem _ this
theorem slots_inj : ∀ {rs : List Rv} {j k i : Nat}, (slotsOf rs).Nodup → rs[j]? = some (.sl i) → rs[k]? = some (.sl i) → j = k
  | [], j, k, i, _, e, _ => by simp at e
  | r :: rs, 0, 0, i, n, e, e' => rfl
  | r :: rs, 0, k + 1, i, n, e, e' => by
    simp at e; subst e
    have h1 := mem_slots (rs := rs) (k := k) (i := i) (by simpa using e')
    exact absurd h1 (List.nodup_cons.mp n).1
  | r :: rs, j + 1, 0, i, n, e, e' => by
    simp at e'; subst e'
    have h1 := mem_slots (rs := rs) (k := j) (i := i) (by simpa using e)
    exact absurd h1 (List.nodup_cons.mp n).1
  | r :: rs, j + 1, k + 1, i, n, e, e' => by
    have n' : (slotsOf rs).Nodup := by
      cases r with
      | fz _ => exact n
      | ow _ => exact n
      | sl _ => exact (List.nodup_cons.mp n).2
    rw [slots_inj (rs := rs) (j := j) (k := k) n' (by simpa using e) (by simpa using e')]
theorem putL_len : ∀ {rs : List Rv} {as : List Val}, (putL env rs as).length = env.length
  | [], _ => by unfold putL; rfl
  | .fz _ :: rs, [] => rfl
  | .ow _ :: rs, [] => rfl
  | .sl _ :: rs, [] => rfl
  | .fz _ :: rs, a :: as => putL_len (rs := rs) (as := as)
  | .ow _ :: rs, a :: as => putL_len (rs := rs) (as := as)
  | .sl _ :: rs, a :: as => by
    show ((putL env rs as).set _ _).length = _
    rw [List.length_set]; exact putL_len (rs := rs) (as := as)
theorem putL_in : ∀ {rs : List Rv} {as : List Val} {k i : Nat} {a : Val}, (slotsOf rs).Nodup → rs[k]? = some (.sl i) → as[k]? = some a → i < env.length → (putL env rs as)[i]? = some (some a)
  | [], _, k, i, a, _, e, _, _ => by simp at e
  | r :: rs, [], k, i, a, _, _, e, _ => by simp at e
  | r :: rs, b :: as, 0, i, a, n, e, e', hl => by
    simp at e e'; subst e; subst e'
    show ((putL env rs as).set i (some b))[i]? = _
    rw [List.getElem?_set_self (by rw [putL_len]; exact hl)]
  | r :: rs, b :: as, k + 1, i, a, n, e, e', hl => by
    have e1 : rs[k]? = some (.sl i) := by simpa using e
    have e2 : as[k]? = some a := by simpa using e'
    cases r with
    | fz _ => exact putL_in (rs := rs) (as := as) (k := k) n e1 e2 hl
    | ow _ => exact putL_in (rs := rs) (as := as) (k := k) n e1 e2 hl
    | sl j =>
      have hj : j ≠ i := fun z => (List.nodup_cons.mp n).1 (z ▸ mem_slots e1)
      show ((putL env rs as).set j (some b))[i]? = _
      rw [List.getElem?_set_ne hj]
      exact putL_in (rs := rs) (as := as) (k := k) (List.nodup_cons.mp n).2 e1 e2 hl
theorem putL_out : ∀ {rs : List Rv} {as : List Val} {i : Nat}, i ∉ slotsOf rs → (putL env rs as)[i]? = env[i]?
  | [], _, _, _ => by unfold putL; rfl
  | .fz _ :: rs, [], _, _ => rfl
  | .ow _ :: rs, [], _, _ => rfl
  | .sl _ :: rs, [], _, _ => rfl
  | .fz _ :: rs, a :: as, i, h => putL_out (rs := rs) (as := as) (i := i) h
  | .ow _ :: rs, a :: as, i, h => putL_out (rs := rs) (as := as) (i := i) h
  | .sl j :: rs, a :: as, i, h => by
    have hj : j ≠ i := fun z => h (z ▸ List.mem_cons_self)
    show ((putL env rs as).set j (some a))[i]? = _
    rw [List.getElem?_set_ne hj]
    exact putL_out (rs := rs) (as := as) (i := i) fun z => h (List.mem_cons_of_mem _ z)
theorem slots_mem : ∀ {rs : List Rv} {i : Nat}, i ∈ slotsOf rs → ∃ k : Nat, rs[k]? = some (Rv.sl i)
  | [], i, h => by cases h
  | .fz _ :: rs, i, h => by obtain ⟨k, e⟩ := slots_mem (rs := rs) h; exact ⟨k + 1, by simpa using e⟩
  | .ow _ :: rs, i, h => by obtain ⟨k, e⟩ := slots_mem (rs := rs) h; exact ⟨k + 1, by simpa using e⟩
  | .sl j :: rs, i, h => by
    rcases List.mem_cons.mp h with e | h
    · exact ⟨0, by rw [e]; rfl⟩
    · obtain ⟨k, e⟩ := slots_mem (rs := rs) h; exact ⟨k + 1, by simpa using e⟩
theorem eV_get {k : Nat} {a : Val} : (eV args)[k]? = some (some a) ↔ args[k]? = some a := by
  unfold eV
  rw [List.getElem?_map]
  cases args[k]? <;> simp
theorem sV_get {k : Nat} {v : V} : (sV vs)[k]? = some (some v) ↔ vs[k]? = some v := by
  unfold sV
  rw [List.getElem?_map]
  cases vs[k]? <;> simp
theorem valOf_ow {r : Rv} {o : O} (h : valOf env r = some (.ow o)) : ∃ i, r = .sl i ∧ env[i]? = some (some (.ow o)) := by
  cases r with
  | fz d => cases h
  | ow o => cases h
  | sl i =>
    refine ⟨i, rfl, ?_⟩
    cases he : env[i]? with
    | none => simp only [valOf, he] at h; cases h
    | some x =>
      cases x with
      | none => simp only [valOf, he] at h; cases h
      | some y =>
        cases y with
        | ex _ _ _ _ => simp only [valOf, he] at h; cases h
        | fz d' => simp only [valOf, he] at h; cases h
        | ow o' => cases o' <;> simp only [valOf, he] at h <;> cases h <;> rfl
theorem valOf_ex {r : Rv} {a : Addr} {C : Str} {ks : List Str} {ds : List D} (h : valOf env r = some (.ex a C ks ds)) : False := by
  cases r with
  | fz d => cases h
  | ow o => cases h
  | sl i =>
    cases he : env[i]? with
    | none => simp only [valOf, he] at h; cases h
    | some x =>
      cases x with
      | none => simp only [valOf, he] at h; cases h
      | some y =>
        cases y with
        | ow o' => cases o' <;> simp only [valOf, he] at h <;> cases h
        | _ => simp only [valOf, he] at h <;> cases h
theorem valOf_inn {r : Rv} {o : O} (h : valOf env r = some (.ow o)) : o.inn = [] := by
  cases r with
  | fz d => cases h
  | ow o => cases h
  | sl i =>
    cases he : env[i]? with
    | none => simp only [valOf, he] at h; cases h
    | some x =>
      cases x with
      | none => simp only [valOf, he] at h; cases h
      | some y =>
        cases y with
        | ow o' => cases o' <;> simp only [valOf, he] at h <;> cases h <;> rfl
        | _ => simp only [valOf, he] at h <;> cases h
theorem valOf_fz {r : Rv} {d : D} {v : V} (R : Rel M c F H σ env) (o : OpOk M F σ v r) (h : valOf env r = some (.fz d)) : Rep M F v d := by
  cases r with
  | fz d => cases h; exact o
  | ow o => cases h
  | sl i =>
    have h' : σ[i]? = some (some v) := o
    cases he : env[i]? with
    | none => simp only [valOf, he] at h; cases h
    | some x =>
      cases x with
      | none => simp only [valOf, he] at h; cases h
      | some y =>
        cases y with
        | ex _ _ _ _ => simp only [valOf, he] at h; cases h
        | ow o' => cases o' <;> simp only [valOf, he] at h <;> cases h
        | fz d' =>
          simp only [valOf, he] at h; cases h
          obtain ⟨u, h1, h2⟩ := R.fz i _ he
          rw [h'] at h1; cases h1; exact h2
/-- the callee's environment -/
theorem Rel.toArgs (R : Rel M c F H σ env) (ok : OpsOk M F σ vs rs) (l : valL env rs = some args) (nd : (slotsOf rs).Nodup) : Rel M (ctN H) F H (sV vs) (eV args) := by
  have at_ : ∀ {k : Nat} {a : Val}, args[k]? = some a → ∃ r v, rs[k]? = some r ∧ valOf env r = some a ∧ vs[k]? = some v ∧ OpOk M F σ v r := fun {k a} h => by
    obtain ⟨r, h1, h2⟩ := valL_get l h
    obtain ⟨v, h3, h4⟩ := ops_get ok h1
    exact ⟨r, v, h1, h2, h3, h4⟩
  refine ⟨R.sub, ?_, fun k d h => ?_, fun k o h => ?_, fun k a C ks ds h => ?_, fun j k o u p h1 h2 h3 h4 => ?_, fun _ h => (nomatch h), fun _ _ h => (nomatch h), fun _ _ _ _ _ _ => rfl, fun k o b h hb => ?_, fun _ u h => ⟨u, h⟩⟩
  · unfold eV sV
    rw [List.length_map, List.length_map, valL_len l, ops_len ok]
  · obtain ⟨r, v, h1, h2, h3, h4⟩ := at_ (eV_get.mp h)
    exact ⟨v, sV_get.mpr h3, valOf_fz R h4 h2⟩
  · obtain ⟨r, v, h1, h2, h3, h4⟩ := at_ (eV_get.mp h)
    obtain ⟨i, rfl, h5⟩ := valOf_ow h2
    obtain ⟨p, h6, h7, h8⟩ := R.ow i o h5
    have h4' : σ[i]? = some (some v) := h4
    rw [h4'] at h6; cases h6
    exact ⟨p, sV_get.mpr h3, h7, h8⟩
  · obtain ⟨r, v, h5, h6, _⟩ := at_ (eV_get.mp h)
    exact (valOf_ex h6).elim
  · obtain ⟨r, v, a1, a2, a3, a4⟩ := at_ (eV_get.mp h1)
    obtain ⟨r', v', b1, b2, b3, b4⟩ := at_ (eV_get.mp h2)
    obtain ⟨i, rfl, a5⟩ := valOf_ow a2
    obtain ⟨i', rfl, b5⟩ := valOf_ow b2
    obtain ⟨p1, h3, h5⟩ := h3
    obtain ⟨p2, h4, h6⟩ := h4
    rw [sV_get.mp h3] at a3; cases a3
    rw [sV_get.mp h4] at b3; cases b3
    have e := R.sep i i' o u p a5 b5 ⟨p1, a4, h5⟩ ⟨p2, b4, h6⟩
    subst e
    exact slots_inj nd a1 b1
  · obtain ⟨r, v, h1, h2, h3, h4⟩ := at_ (eV_get.mp h)
    rw [valOf_inn h2] at hb; cases hb
theorem own_args (ok : OpsOk M F σ vs rs) (l : valL env rs = some args) : ∀ b, Own (sV vs) (eV args) b → ∃ i o, i ∈ slotsOf rs ∧ env[i]? = some (some (.ow o)) ∧ ∃ p, σ[i]? = some (some (.ref p)) ∧ Has p o b := fun b ⟨k, o, h1, p, h2, h8⟩ => by
  obtain ⟨r, h3, h4⟩ := valL_get l (eV_get.mp h1)
  obtain ⟨v, h5, h6⟩ := ops_get ok h3
  obtain ⟨i, rfl, h7⟩ := valOf_ow h4
  rw [sV_get.mp h2] at h5; cases h5
  exact ⟨i, o, mem_slots h3, h7, p, h6, h8⟩
/-- behind the call -/
theorem Rel.back (R : Rel M c F H σ env) (ok : OpsOk M F σ vs rs) (l : valL env rs = some args) (nd : (slotsOf rs).Nodup)
    (R' : Rel M (ctN H) F' H' (sV vs) (eV args')) (ev : Evo (Own (sV vs) (eV args)) (Own (sV vs) (eV args')) F H F' H') (bk : backOk args args' = true) :
    Rel M c F' H' σ (putL env rs args') ∧ Evo (Own σ env) (Own σ (putL env rs args')) F H F' H' ∧ (∀ b, Own σ (putL env rs args') b → Own (sV vs) (eV args') b ∨ Own σ env b) := by
  have lenA : args'.length = rs.length := (backOk_len bk).trans (valL_len l)
  have ownSub : ∀ b, Own (sV vs) (eV args) b → Own σ env b := fun b h => by
    obtain ⟨i, o, _, h2, h3⟩ := own_args ok l b h
    exact ⟨i, o, h2, h3⟩
  -- a slot among the arguments
  have inn : ∀ {i : Nat}, i ∈ slotsOf rs → ∃ (k : Nat) (v : V), rs[k]? = some (Rv.sl i) ∧ vs[k]? = some v ∧ σ[i]? = some (some v) ∧ ∃ a, args'[k]? = some a ∧ (putL env rs args')[i]? = some (some a) := fun {i} hi => by
    obtain ⟨k, hk⟩ := slots_mem hi
    obtain ⟨v, h1, h2⟩ := ops_get ok hk
    have h2' : σ[i]? = some (some v) := h2
    have hl : i < env.length := by rw [R.len]; exact (List.getElem?_eq_some_iff.mp h2').1
    have hk' : k < args'.length := by rw [lenA]; exact (List.getElem?_eq_some_iff.mp hk).1
    exact ⟨k, v, hk, h1, h2, args'[k], List.getElem?_eq_getElem hk', putL_in nd hk (List.getElem?_eq_getElem hk') hl⟩
  -- a slot that was not handed over and owns: kept
  have kept : ∀ {i : Nat} {o : O} {p b : Addr}, i ∉ slotsOf rs → env[i]? = some (some (.ow o)) → σ[i]? = some (some (.ref p)) → Has p o b → (∀ u, H b = some u → H' b = some u) ∧ F' b = none ∧ ¬ Own (sV vs) (eV args') b := fun {i o p b} hi h1 h2 hb => by
    obtain ⟨q, h3, h4, h5⟩ := R.ow i o h1
    rw [h2] at h3; cases h3
    obtain ⟨h6, u, hu⟩ := h5.has h4 b hb
    have hn : ¬ Own (sV vs) (eV args) b := fun z => by
      obtain ⟨i', o', z1, z2, z3⟩ := own_args ok l b z
      have := R.sep i i' o o' b h1 z2 ⟨p, h2, hb⟩ z3
      exact hi (this ▸ z1)
    obtain ⟨q1, q2, q3⟩ := ev.keepTemp hu h6 hn
    exact ⟨fun u' hu' => by rw [hu] at hu'; cases hu'; exact q1, q2, q3⟩
  refine ⟨⟨R'.sub, by rw [putL_len]; exact R.len, fun i d h => ?_, fun i o h => ?_, fun i a C ks ds h => ?_, fun i j o u p h1 h2 h3 h4 => ?_, R.pin, fun b u h => ?_, fun i o p h hn hp => ?_, fun i o b h hb => ?_, fun b u h => ?_⟩, ⟨ev.fs, fun b o h => ?_, fun b o h n => ev.hk b o h fun z => n (ownSub b z), ev.ht, fun b h => ?_⟩, fun b h => ?_⟩
  · by_cases hi : i ∈ slotsOf rs
    · obtain ⟨k, v, h1, h2, h3, a, h4, h5⟩ := inn hi
      rw [h5] at h; cases h
      obtain ⟨v', h6, h7⟩ := R'.fz k d (eV_get.mpr h4)
      rw [sV_get.mp h6] at h2; cases h2
      exact ⟨v, h3, h7⟩
    · rw [putL_out hi] at h
      obtain ⟨v, h1, h2⟩ := R.fz i d h
      exact ⟨v, h1, h2.same ev.fs⟩
  · by_cases hi : i ∈ slotsOf rs
    · obtain ⟨k, v, h1, h2, h3, a, h4, h5⟩ := inn hi
      rw [h5] at h; cases h
      obtain ⟨p, h6, h7, h8⟩ := R'.ow k o (eV_get.mpr h4)
      rw [sV_get.mp h6] at h2; cases h2
      exact ⟨p, h3, h7, h8⟩
    · rw [putL_out hi] at h
      obtain ⟨p, h1, h2, h3⟩ := R.ow i o h
      have k : ∀ b, Has p o b → H' b = H b ∧ F' b = none := fun b hb => by
        obtain ⟨q1, q2, q3⟩ := kept hi h h1 hb
        obtain ⟨_, u, hu⟩ := h3.has h2 b hb
        exact ⟨(q1 u hu).trans hu.symm, q2⟩
      exact ⟨p, h1, (k p .self).2, h3.same ev.fs (k p .self).1 fun b hb => k b (.inr hb)⟩
  · by_cases hi : i ∈ slotsOf rs
    · obtain ⟨k, v, h1, h2, h3, b, h4, h5⟩ := inn hi
      rw [h5] at h; cases h
      obtain ⟨_, _, _, z, _⟩ := R'.ex k a C ks ds (eV_get.mpr h4)
      exact z.elim
    · rw [putL_out hi] at h
      exact (R.ex i a C ks ds h).imp id fun ⟨cl, d, h2, h3⟩ => ⟨cl, d, h2, h3.same ev.fs⟩
  · obtain ⟨p1, h3, h5⟩ := h3
    obtain ⟨p2, h4, h6⟩ := h4
    have one : ∀ {i : Nat} {o : O} {q : Addr}, (putL env rs args')[i]? = some (some (.ow o)) → σ[i]? = some (some (.ref q)) → (i ∈ slotsOf rs ∧ ∃ k : Nat, rs[k]? = some (.sl i) ∧ (eV args')[k]? = some (some (.ow o)) ∧ (sV vs)[k]? = some (some (.ref q))) ∨ (i ∉ slotsOf rs ∧ env[i]? = some (some (.ow o))) := fun {i o q} h h' => by
      by_cases hi : i ∈ slotsOf rs
      · obtain ⟨k, v, a1, a2, a3, a, a4, a5⟩ := inn hi
        rw [a5] at h; cases h
        rw [h'] at a3; cases a3
        exact .inl ⟨hi, k, a1, eV_get.mpr a4, sV_get.mpr a2⟩
      · rw [putL_out hi] at h
        exact .inr ⟨hi, h⟩
    rcases one h1 h3 with ⟨i1, k, k1, k2, k3⟩ | ⟨i1, k1⟩
    · rcases one h2 h4 with ⟨j1, m, m1, m2, m3⟩ | ⟨j1, m1⟩
      · have e := R'.sep k m o u p k2 m2 ⟨p1, k3, h5⟩ ⟨p2, m3, h6⟩
        subst e
        rw [k1] at m1; cases m1; rfl
      · exact absurd ⟨k, o, k2, p1, k3, h5⟩ (kept j1 m1 h4 h6).2.2
    · rcases one h2 h4 with ⟨j1, m, m1, m2, m3⟩ | ⟨j1, m1⟩
      · exact absurd ⟨m, u, m2, p2, m3, h6⟩ (kept i1 k1 h3 h5).2.2
      · exact R.sep i j o u p k1 m1 ⟨p1, h3, h5⟩ ⟨p2, h4, h6⟩
  · obtain ⟨u', hu⟩ := R.old b u h
    exact ev.ht b u' hu
  · by_cases hi : i ∈ slotsOf rs
    · obtain ⟨k, v, a1, a2, a3, a, a4, a5⟩ := inn hi
      rw [a5] at h; cases h
      rw [hp] at a3; cases a3
      have hk : k < args.length := by rw [valL_len l]; exact (List.getElem?_eq_some_iff.mp a1).1
      obtain ⟨o', eo⟩ := backOk_ow bk (List.getElem?_eq_getElem hk) a4
      obtain ⟨r, b1, b2⟩ := valL_get l (List.getElem?_eq_getElem hk)
      rw [a1] at b1; cases b1
      rw [eo] at b2
      obtain ⟨i', e', b3⟩ := valOf_ow b2
      cases e'
      exact R.fr i o' p b3 hn hp
    · rw [putL_out hi] at h
      exact R.fr i o p h hn hp
  · by_cases hi : i ∈ slotsOf rs
    · obtain ⟨k, v, a1, a2, a3, a, a4, a5⟩ := inn hi
      rw [a5] at h; cases h
      exact ⟨R.newN (R'.frN k o b (eV_get.mpr a4) hb).1, R.new (R'.frN k o b (eV_get.mpr a4) hb).1⟩
    · rw [putL_out hi] at h
      exact R.frN i o b h hb
  · obtain ⟨u', hu⟩ := R.oldN b u h
    exact ev.ht b u' hu
  · rcases ev.fn b o h with z | z | z
    · exact .inl z
    · exact .inr (.inl z)
    · exact .inr (.inr (ownSub b z))
  · obtain ⟨i, o, h1, h2⟩ := h
    by_cases hi : i ∈ slotsOf rs
    · obtain ⟨k, v, a1, a2, a3, a, a4, a5⟩ := inn hi
      rw [a5] at h1; cases h1
      obtain ⟨p, h2, h3⟩ := h2
      rw [h2] at a3; cases a3
      rcases ev.aa b ⟨k, o, eV_get.mpr a4, p, sV_get.mpr a2, h3⟩ with z | z
      · exact .inl (ownSub b z)
      · exact .inr z
    · rw [putL_out hi] at h1
      exact .inl ⟨i, o, h1, h2⟩
  · obtain ⟨i, o, h1, h2⟩ := h
    by_cases hi : i ∈ slotsOf rs
    · obtain ⟨k, v, a1, a2, a3, a, a4, a5⟩ := inn hi
      rw [a5] at h1; cases h1
      obtain ⟨p, h2, h3⟩ := h2
      rw [h2] at a3; cases a3
      exact .inl ⟨k, o, eV_get.mpr a4, p, sV_get.mpr a2, h3⟩
    · rw [putL_out hi] at h1
      exact .inr ⟨i, o, h1, h2⟩
end
section
variable {X : Cx} {c : Ct} {W : WX} {e : Expr} {es : List Expr} {wl : AW} {pos p : Pos} {x : Str} {k : Nat} {f : Addr} {fd : FuncData} {ps : List Str} {S : FSpec} {dvs : List V} {ds : List Value}
theorem call_core (mS : MonoF S) (ml : MonoA wl) {σ : St} {H : Hp} {Q : VK} (h : ERd (mdX X) c W (wCall S wl) σ H Q) :
    ARd (mdX X) c W wl σ H fun vs H1 => toSp (mdX X) S vs H1 Q (WE W σ) := by
  obtain ⟨F, env, R, h⟩ := h
  refine ⟨F, env, R, ml.mo (fun rs e1 ⟨args, l, nd, q⟩ => ?_) (fun _ _ z => z) h⟩
  intro vs F1 H1 R1 ev1 ok
  refine ⟨F1, args, R1.toArgs ok l nd, mS.mo (fun r args' ⟨ln, nsl, q⟩ => ?_) (fun xx args' ⟨ln, q⟩ => ?_) q⟩
  · intro v F' H' R' ev rv
    obtain ⟨R2, ev2, ow⟩ := R1.back ok l nd R' ev ln
    refine q v F' H' R2 (ev1.trans ev2) ?_
    cases r with
    | fz d => exact rv
    | sl i => exact absurd rfl (nsl i)
    | ow o =>
      obtain ⟨pp, a1, a2, a3, a4, a5⟩ := rv
      refine ⟨pp, a1, a2, a3, fun b hb z => ?_, fun b hb => ev1.noneOf (a5 b hb)⟩
      rcases ow b z with z | z
      · exact a4 b hb z
      · obtain ⟨u, hu⟩ := R1.own_some z
        rw [a5 b hb] at hu; cases hu
  · intro cl d F' H' R' ev xo
    obtain ⟨R2, ev2, _⟩ := R1.back ok l nd R' ev ln
    exact q cl d F' H' R2 (ev1.trans ev2) xo
end
end LV
namespace LV
open PySem PySem.Spec L2
structure Ks where
  nx : En → Prop
  rt : Rv → En → Prop
  bk : En → Prop
  ct : En → Prop
  ex : XW
abbrev SW := Ks → En → Prop
structure KLe (K K' : Ks) : Prop where
  nx : ∀ e, K.nx e → K'.nx e
  rt : ∀ r e, K.rt r e → K'.rt r e
  bk : ∀ e, K.bk e → K'.bk e
  ct : ∀ e, K.ct e → K'.ct e
  ex : ∀ x e, K.ex x e → K'.ex x e
structure MonoS (w : SW) : Prop where
  mo : ∀ {K K' : Ks} {env : En}, KLe K K' → w K env → w K' env
section
variable (M : Md) (c : Ct) (W : WX) (D : Ends) (F H : Hp) (σ : St) (env : En)
def NxP (N : St → Hp → Prop) : En → Prop := fun env' => ∀ σ' F' H', Rel M c F' H' σ' env' → Evo (Own σ env) (Own σ' env') F H F' H' → N σ' H'
/-- a result, handed out of the def -/
def RetOk (M : Md) (c : Ct) (F' H' : Hp) (σ' : St) (env' : En) (v : V) : Rv → Prop
  | .fz d => Rep M F' v d
  | .ow o => ∃ p, v = .ref p ∧ F' p = none ∧ ORep M F' H' p o ∧ (∀ b, Has p o b → ¬ Own σ' env' b) ∧ c.h₀ p = none ∧ ∀ b ∈ o.inn, c.hN b = none
  | .sl _ => False
def RtP (N : VK) : Rv → En → Prop := fun r env' => ∀ v σ' F' H', Rel M c F' H' σ' env' → Evo (Own σ env) (Own σ' env') F H F' H' → RetOk M c F' H' σ' env' v r → N v H'
def XnP : XW := fun x env' => ∀ cl d σ' F' H', Rel M c F' H' σ' env' → Evo (Own σ env) (Own σ' env') F H F' H' → XOk M F' x cl d → W cl d σ' H'
def KsOf : Ks := ⟨NxP M c F H σ env D.nx, RtP M c F H σ env D.rt, NxP M c F H σ env D.bk, NxP M c F H σ env D.ct, XnP M c W F H σ env⟩
end
def SRd (M : Md) (c : Ct) (W : WX) (w : SW) : TS := fun D σ H => ∃ F env, Rel M c F H σ env ∧ w (KsOf M c W D F H σ env) env
structure SS (X : Cx) (c : Ct) (W : WX) (st : Stmt) (w : SW) : Prop where
  ps : PS X st (SRd (mdX X) c W w)
  mo : MonoS w
structure SSs (X : Cx) (c : Ct) (W : WX) (st : List Stmt) (w : SW) : Prop where
  ps : PSs X st (SRd (mdX X) c W w)
  mo : MonoS w
section
variable {M : Md} {c : Ct} {W : WX} {D : Ends} {F H F1 H1 : Hp} {σ σ1 : St} {env env1 : En}
theorem KsOf.step (e : Evo (Own σ env) (Own σ1 env1) F H F1 H1) : KLe (KsOf M c W D F H σ env) (KsOf M c W D F1 H1 σ1 env1) where
  nx := fun _ h σ' F' H' R' e' => h σ' F' H' R' (e.trans e')
  rt := fun _ _ h v σ' F' H' R' e' ok => h v σ' F' H' R' (e.trans e') ok
  bk := fun _ h σ' F' H' R' e' => h σ' F' H' R' (e.trans e')
  ct := fun _ h σ' F' H' R' e' => h σ' F' H' R' (e.trans e')
  ex := fun _ _ h cl d σ' F' H' R' e' ok => h cl d σ' F' H' R' (e.trans e') ok
theorem SRd.post {w : SW} (m : MonoS w) (R : Rel M c F1 H1 σ1 env1) (e : Evo (Own σ env) (Own σ1 env1) F H F1 H1) (h : w (KsOf M c W D F H σ env) env1) : SRd M c W w D σ1 H1 :=
  ⟨F1, env1, R, m.mo (KsOf.step e) h⟩
theorem XnP.xp {x : Xn} {env' : En} (h : XnP M c W F H σ env x env') : XPost M c W F H σ env x env' := fun cl d F' H' R e ok => h cl d σ F' H' R e ok
end
theorem KLe.refl (K : Ks) : KLe K K := ⟨fun _ h => h, fun _ _ h => h, fun _ h => h, fun _ h => h, fun _ _ h => h⟩
theorem KLe.withNx {K K' : Ks} (h : KLe K K') {n n' : En → Prop} (i : ∀ e, n e → n' e) : KLe { K with nx := n } { K' with nx := n' } := ⟨i, h.rt, h.bk, h.ct, h.ex⟩
section
variable {X : Cx} {c : Ct} {W : WX} {e a b : Expr} {w wa wb : EW} {u : TW} {s1 s2 : SW} {st : Stmt} {rest sa sb : List Stmt} {pos : Pos}
def wSkip : SW := fun K env => K.nx env
def wSeq (s1 s2 : SW) : SW := fun K env => s1 { K with nx := fun e => s2 K e } env
theorem MonoS.skip : MonoS wSkip := ⟨fun k h => k.nx _ h⟩
theorem MonoS.seq (m : MonoS s1) (n : MonoS s2) : MonoS (wSeq s1 s2) := ⟨fun k h => m.mo (k.withNx fun e q => n.mo k q) h⟩
theorem sss_nil : SSs X c W [] wSkip := ⟨PSs.imp pss_nil fun D σ H h => by
  obtain ⟨F, env, R, h⟩ := h
  exact h σ F H R Evo.refl, .skip⟩
theorem sss_one (h : SS X c W st s1) : SSs X c W [st] s1 := ⟨pss_one h.ps, h.mo⟩
theorem sss_cons (h : SS X c W st s1) (h2 : SSs X c W rest s2) : SSs X c W (st :: rest) (wSeq s1 s2) := by
  refine ⟨PSs.imp (pss_cons h.ps h2.ps) fun D σ H q => ?_, .seq h.mo h2.mo⟩
  obtain ⟨F, env, R, q⟩ := q
  refine ⟨F, env, R, h.mo.mo (K := { KsOf (mdX X) c W D F H σ env with nx := fun e => s2 (KsOf (mdX X) c W D F H σ env) e }) ⟨fun e q => ?_, fun _ _ z => z, fun _ z => z, fun _ z => z, fun _ _ z => z⟩ q⟩
  intro σ' F' H' R' ev
  exact SRd.post h2.mo R' ev q
def wBrk : SW := fun K env => K.bk env
def wCnt : SW := fun K env => K.ct env
def wExp (w : EW) : SW := fun K env => w env (fun _ e => K.nx e) K.ex
def wIf (u : TW) (s1 s2 : SW) : SW := fun K env => u env (fun b e => if b = true then s1 K e else s2 K e) K.ex
theorem MonoS.iff (m : MonoT u) (m1 : MonoS s1) (m2 : MonoS s2) : MonoS (wIf u s1 s2) := ⟨fun k h => m.mo (fun b e q => by
  cases b with
  | true => exact m1.mo k q
  | false => exact m2.mo k q) (fun _ _ z => k.ex _ _ z) h⟩
theorem ss_if (h : ST X c W e u) (h1 : SSs X c W sa s1) (h2 : SSs X c W sb s2) : SS X c W (.If e sa sb pos) (wIf u s1 s2) := by
  refine ⟨PS.imp (ps_if h.pt h1.ps h2.ps) fun D σ H q => ?_, .iff h.mo h1.mo h2.mo⟩
  obtain ⟨F, env, R, q⟩ := q
  refine ⟨F, env, R, h.mo.mo (fun b e q => ?_) (fun _ _ z => z.xp) q⟩
  intro F' H' R' ev
  cases b with
  | true => exact SRd.post h1.mo R' ev q
  | false => exact SRd.post h2.mo R' ev q
/-- return e -/
def retR (pn : List Nat) (r : Rv) (env : En) (N : Rv → En → Prop) : Prop :=
  match r with
  | .fz d => N (.fz d) env
  | .ow o => N (.ow o) env
  | .sl i => match env[i]? with
    | some (some (.fz d)) => N (.fz d) env
    | some (some (.ow o)) => if i ∈ pn then N (.fz o.d) (env.set i (some (.fz o.d))) else N (.ow o) (env.set i none)
    | _ => False
def wRet (pn : List Nat) (w : EW) : SW := fun K env => w env (fun r e => retR pn r e K.rt) K.ex
theorem retR_mono {pn : List Nat} {r : Rv} {env : En} {N N' : Rv → En → Prop} (h : ∀ r e, N r e → N' r e) (q : retR pn r env N) : retR pn r env N' := by
  cases r with
  | fz d => exact h _ _ q
  | ow o => exact h _ _ q
  | sl i =>
    unfold retR at q ⊢
    dsimp only at q ⊢
    split at q
    · exact h _ _ q
    · split at q
      · rename_i hi; rw [if_pos hi]; exact h _ _ q
      · rename_i hi; rw [if_neg hi]; exact h _ _ q
    · exact q
theorem ss_ret (h : SE X c W e w) : SS X c W (.Return (some e) pos) (wRet c.pn w) := by
  refine ⟨PS.imp (ps_ret h.pe) fun D σ H q => ?_, ⟨fun k q => h.mo.mo (fun _ _ z => retR_mono (fun _ _ z => k.rt _ _ z) z) (fun _ _ z => k.ex _ _ z) q⟩⟩
  obtain ⟨F, env, R, q⟩ := q
  refine ⟨F, env, R, h.mo.mo (fun r e z => ?_) (fun _ _ z => z.xp) q⟩
  intro v F' H' R' ev ok
  cases r with
  | fz d => exact z v σ F' H' R' ev ok
  | ow o =>
    obtain ⟨p, a1, a2, a3, a4, a5⟩ := ok
    exact z v σ F' H' R' ev ⟨p, a1, a2, a3, a4, R.new (a5 p .self), fun b hb => R.newN (a5 b (.inr hb))⟩
  | sl i =>
    obtain ⟨h1, o, h2⟩ := ok
    simp only [retR, h2] at z
    obtain ⟨p, h3, h4, h5⟩ := R'.ow i o h2
    rw [h1] at h3; cases h3
    split at z
    · obtain ⟨q, F2, a1, a2, a3, a4, _⟩ := R'.freeze h2
      rw [h1] at a1; cases a1
      exact z _ σ F2 H' a2 (ev.trans a4) a3
    · rename_i hpn
      refine z _ σ F' H' (R'.forget i) (ev.trans (Evo.sub own_forget)) ⟨p, rfl, h4, h5, fun b hb zz => ?_, R'.fr i o p h2 hpn h1, fun b hb => (R'.frN i o b h2 hb).1⟩
      obtain ⟨j, o', z1, z2⟩ := zz
      by_cases eq : i = j
      · subst eq
        rw [List.getElem?_set_self (List.getElem?_eq_some_iff.mp h2).1] at z1
        cases z1
      · rw [List.getElem?_set_ne eq] at z1
        exact eq (R'.sep i j o o' b h2 z1 ⟨p, h1, hb⟩ z2)
def wRetN : SW := fun K env => K.rt (.fz .non) env
def setR (i : Nat) (r : Rv) (env : En) (N : En → Prop) : Prop :=
  match r with
  | .fz d => N (env.set i (some (.fz d)))
  | .ow o => N (env.set i (some (.ow o)))
  | .sl j => if i = j then N env else ∃ d e2, frz1 env (.sl j) = some (d, e2) ∧ N (e2.set i (some (.fz d)))
theorem setR_mono {i : Nat} {r : Rv} {env : En} {N N' : En → Prop} (h : ∀ e, N e → N' e) (q : setR i r env N) : setR i r env N' := by
  cases r with
  | fz d => exact h _ q
  | ow o => exact h _ q
  | sl j =>
    unfold setR at q ⊢
    dsimp only at q ⊢
    split
    · rename_i e; rw [if_pos e] at q; exact h _ q
    · rename_i e; rw [if_neg e] at q
      obtain ⟨d, e2, a, q⟩ := q
      exact ⟨d, e2, a, h _ q⟩
def wSet (i : Nat) (w : EW) : SW := fun K env => w env (fun r e => setR i r e K.nx) K.ex
section
variable {M : Md} {F H F' H' : Hp} {σ : St} {env : En}
theorem Rel.setFz' (R : Rel M c F H σ env) {i : Nat} {v : V} {d : D} (hi : i ∉ c.pn) (r : Rep M F v d) : Rel M c F H (σ.set i (some v)) (env.set i (some (.fz d))) := by
  by_cases hl : i < σ.length
  · exact R.setFz hi hl r
  · rw [List.set_eq_of_length_le (by omega), List.set_eq_of_length_le (by rw [R.len]; omega)]
    exact R
theorem Rel.setOw' (R : Rel M c F H σ env) {i : Nat} {p : Addr} {o : O} (hi : i ∉ c.pn) (hp : F p = none) (r : ORep M F H p o) (hn : ∀ b, Has p o b → ¬ Own σ env b) (h0 : c.h₀ p = none) (hN : ∀ b ∈ o.inn, c.hN b = none ∧ c.h₀ b = none) : Rel M c F H (σ.set i (some (.ref p))) (env.set i (some (.ow o))) := by
  by_cases hl : i < σ.length
  · exact R.setOw hi hl hp r hn h0 hN
  · rw [List.set_eq_of_length_le (by omega), List.set_eq_of_length_le (by rw [R.len]; omega)]
    exact R
/-- what the store of r into slot i comes to -/
theorem setR_ok {Fs Hs : Hp} {σs : St} {es : En} {r : Rv} {v : V} {N : En → Prop} {i : Nat} (hi : i ∉ c.pn) (Rs : Rel M c Fs Hs σs es) (R : Rel M c F H σ env) (ev : Evo (Own σs es) (Own σ env) Fs Hs F H) (ok : RvOk M F H Hs σ env v r) (q : setR i r env N) :
    ∃ F' env', N env' ∧ Rel M c F' H (σ.set i (some v)) env' ∧ Evo (Own σs es) (Own (σ.set i (some v)) env') Fs Hs F' H := by
  cases r with
  | fz d => exact ⟨F, _, q, R.setFz' hi ok, ev.trans (Evo.sub own_setFz)⟩
  | ow o =>
    obtain ⟨p, rfl, a2, a3, a4, a5⟩ := ok
    refine ⟨F, _, q, R.setOw' hi a2 a3 a4 (Rs.new (a5 p .self)) (fun b hb => ⟨Rs.newN (a5 b (.inr hb)), Rs.new (a5 b (.inr hb))⟩), ⟨ev.fs, ev.fn, ev.hk, ev.ht, fun b hb => ?_⟩⟩
    rcases own_setOw b hb with z | z
    · exact ev.aa b z
    · exact .inr (a5 b z)
  | sl j =>
    obtain ⟨h1, o, h2⟩ := ok
    unfold setR at q
    dsimp only at q
    split at q
    · rename_i e
      subst e
      have : σ.set i (some v) = σ := by
        apply List.ext_getElem?
        intro k
        by_cases hk : i = k
        · subst hk
          rw [List.getElem?_set_self (List.getElem?_eq_some_iff.mp h1).1, h1]
        · rw [List.getElem?_set_ne hk]
      rw [this]
      exact ⟨F, env, q, R, ev⟩
    · obtain ⟨d, e2, a, q⟩ := q
      obtain ⟨F', R', ev', r'⟩ := frz1_ok (r := .sl j) R h1 a
      exact ⟨F', _, q, R'.setFz' hi r', (ev.trans ev').trans (Evo.sub own_setFz)⟩
end
theorem ss_set {i : Nat} {x : Str} {pos' : Pos} (hi : i ∉ c.pn) (hN : X.N.Nodup) (hx : X.N[i]? = some x) (hl : Loc X.env.scope x) (h : SE X c W e w) (hs : swapsWith e (some (.Name x pos')) pos.line X.env = pure false := by rfl)
    (hf : X.fn x = true ∨ X.env.scope.names.lookup x = some .local := by first | exact .inl rfl | exact .inr rfl | assumption) : SS X c W (.Assign [.Name x pos'] e pos) (wSet i w) := by
  refine ⟨PS.imp (ps_set hN hx hl h.pe hs hf) fun D σ H q => ?_, ⟨fun k q => h.mo.mo (fun _ _ z => setR_mono (fun _ z => k.nx _ z) z) (fun _ _ z => k.ex _ _ z) q⟩⟩
  obtain ⟨F, env, R, q⟩ := q
  refine ⟨F, env, R, h.mo.mo (fun r e z => ?_) (fun _ _ z => z.xp) q⟩
  intro v F' H' R' ev ok
  obtain ⟨F2, e2, n, R2, ev2⟩ := setR_ok hi R R' ev ok z
  exact n _ F2 H' R2 ev2
def wApp (i : Nat) (w : EW) : SW := fun K env => (∃ ds0, env[i]? = some (some (.ow (.lst ds0)))) ∧ wFz w env (fun r e => ∃ ds d e2, r ≠ .sl i ∧ frz1 e r = some (d, e2) ∧ e2[i]? = some (some (.ow (.lst ds))) ∧ ds.length < sizeLine ∧ K.nx (e2.set i (some (.ow (.lst (ds ++ [d])))))) K.ex
theorem ss_app {i : Nat} {x : Str} {p1 p2 p3 : Pos} (h : SE X c W e w) (hx : X.N[i]? = some x := by rfl) (hv : Vis X.env.scope x := by first | exact Or.inl rfl | exact Or.inr (Or.inl rfl) | exact Or.inr (Or.inr rfl))
    (hd : (x == ("__debug__" : Str)) = false := by decide) (hcd : (x == ("__classdict__" : Str)) = false := by decide)
    (hbase : attributeBase (.Name x p1) "append" X.env (eval (.Name x p1) X.env) = eval (.Name x p1) X.env := by rfl)
    (hfew : ((backTo p3 (starEach [e] X.env)).all (fun x => !x.1) && (backToKw p3 (keywordEach [] X.env)).all (fun x => x.1.isSome)
      && decide ([e].length + ([] : List Keyword).length + (if ([] : List Keyword).isEmpty then 0 else 1) < 30)) = true := by rfl)
    (hline : (p2.endLine == p3.line) = true := by rfl) (hs : starEach [e] X.env = (false, eval e X.env) :: starEach [] X.env := by rfl) (hplain : (backTo p3 (starEach [] X.env)).any (·.1) = false := by rfl)
    (hsw : swapsWith (.Call (.Attribute (.Name x p1) "append" p2) [e] [] p3) none pos.line X.env = pure false := by rfl) :
    SS X c W (.Expr (.Call (.Attribute (.Name x p1) "append" p2) [e] [] p3) pos) (wApp i w) := by
  refine ⟨PS.imp (ps_expr (pe_bm PySem.F.plainAttrs_list PySem.F.slot_list_append PySem.F.type_list_append mt_append (pe_var hx hv hd hcd) (pa_cons h.pe pa_nil hs) hbase hfew hline hs hplain) hsw) fun D σ H q => ?_,
    ⟨fun k ⟨q0, q⟩ => ⟨q0, h.mo.fz.mo (fun _ _ ⟨ds, d, e2, n, a, b, l, z⟩ => ⟨ds, d, e2, n, a, b, l, k.nx _ z⟩) (fun _ _ z => k.ex _ _ z) q⟩⟩⟩
  obtain ⟨F, env, R, ⟨ds0, q0⟩, q⟩ := q
  obtain ⟨p, hp, hpF, xs0, hpH, _⟩ := R.ow i _ q0
  refine ⟨.ref p, hp, .inl ⟨rfl, xs0, .inl (.inl hpH)⟩, ?_⟩
  refine opd h.mo R (h.mo.fz.mo (fun _ _ z => z) (fun _ _ z => z.xp) q) fun r e1 v F1 H1 R1 ev1 ok1 ⟨ds, d, e2, ne, a, b, l, z⟩ => ?_
  obtain ⟨F2, R2, ev2, rv⟩ := frz1_ok R1 ok1 a
  obtain ⟨p', h1, h2, xs, h3, h4⟩ := R2.ow i _ b
  rw [hp] at h1; cases h1
  refine ⟨p, xs, v, rfl, rfl, h3, by rw [h4.length]; exact l, ?_⟩
  obtain ⟨R3, ev3⟩ := R2.write (o' := .lst (ds ++ [d])) (u := .lst (xs ++ [v])) b hp ⟨_, upd_same, h4.append (.cons rv .nil)⟩
  exact z σ F2 _ R3 ((ev1.trans ev2).trans ev3)
def wSetIx (i : Nat) (w wi : EW) : SW := fun K env => wFz w env (fun r e1 => (∃ v0, e1[i]? = some (some v0)) ∧ wFz wi e1 (fun ri e2 => ∃ k j ds d e3, look e2 ri = some (.int k) ∧ r ≠ .sl i ∧ frz1 e2 r = some (d, e3) ∧ e3[i]? = some (some (.ow (.lst ds))) ∧ ixN ds.length k = some j ∧ K.nx (e3.set i (some (.ow (.lst (ds.set j d)))))) K.ex) K.ex
theorem ss_setIx {i : Nat} {x : Str} {ei : Expr} {wi : EW} {p1 p2 : Pos} (h : SE X c W e w) (hi : SE X c W ei wi) (hx : X.N[i]? = some x := by rfl) (hv : Vis X.env.scope x := by first | exact Or.inl rfl | exact Or.inr (Or.inl rfl) | exact Or.inr (Or.inr rfl))
    (hd : (x == ("__debug__" : Str)) = false := by decide) (hcd : (x == ("__classdict__" : Str)) = false := by decide)
    (ha : ∀ v, assign (.Subscript (.Name x p1) ei p2) X.env v = (do
      let ov ← holding [v] (eval (.Name x p1) X.env)
      let iv ← holding [v, ov] (eval ei X.env)
      standAt p2
      holding [v, ov, iv] (setItem ov iv v)
      release [v, ov, iv] []) := by intro _; rfl)
    (hs : swapsWithSole [.Subscript (.Name x p1) ei p2] e pos.line X.env = pure false := by rfl) (hw : swappedStores [.Subscript (.Name x p1) ei p2] e X.env = pure none := by rfl)
    (h1 : (assignEach [.Subscript (.Name x p1) ei p2] X.env).map (·.2) = [assign (.Subscript (.Name x p1) ei p2) X.env] := by rfl) :
    SS X c W (.Assign [.Subscript (.Name x p1) ei p2] e pos) (wSetIx i w wi) := by
  refine ⟨PS.imp (ps_asg h.pe (pg_sub (pe_var hx hv hd hcd) hi.pe set_list ha) hs hw h1) fun D σ H q => ?_,
    ⟨fun k q => h.mo.fz.mo (fun _ _ ⟨q0, q⟩ => ⟨q0, hi.mo.fz.mo (fun _ _ ⟨k1, j, ds, d, e3, l, n, a, b, ll, z⟩ => ⟨k1, j, ds, d, e3, l, n, a, b, ll, k.nx _ z⟩) (fun _ _ z => k.ex _ _ z) q⟩) (fun _ _ z => k.ex _ _ z) q⟩⟩
  obtain ⟨F, env, R, q⟩ := q
  refine opd h.mo R (h.mo.fz.mo (fun _ _ z => z) (fun _ _ z => z.xp) q) fun r e1 v F1 H1 R1 ev1 ok1 ⟨⟨v0, q0⟩, q1⟩ => ?_
  have hσ : ∃ v1, σ[i]? = some (some v1) := by
    cases v0 with
    | fz d => obtain ⟨v1, h1, _⟩ := R1.fz i d q0; exact ⟨v1, h1⟩
    | ow o => obtain ⟨p, h1, _⟩ := R1.ow i o q0; exact ⟨_, h1⟩
    | ex a C ks vs => exact ⟨_, (R1.ex i a C ks vs q0).1⟩
  obtain ⟨v1, hv1⟩ := hσ
  refine ⟨v1, hv1, ?_⟩
  refine opd hi.mo R1 (hi.mo.fz.mo (fun _ _ z => z) (fun _ _ z => XPost.step ev1 z.xp) q1) fun ri e2 vi F2 H2 R2 ev2 ok2 ⟨k, j, ds, d, e3, l, ne, a, b, ij, z⟩ => ?_
  have hvi := ok2.vw R2 l
  cases (show vi = .int k from hvi)
  obtain ⟨F3, R3, ev3, rv⟩ := frz1_ok R2 (ok1.same ev2.fs) a
  obtain ⟨p, h1, h2, xs, h3, h4⟩ := R3.ow i _ b
  rw [hv1] at h1; cases h1
  refine ⟨p, xs, k, j, rfl, rfl, h3, by rw [h4.length]; exact ij, ?_⟩
  obtain ⟨R4, ev4⟩ := R3.write (o' := .lst (ds.set j d)) (u := .lst (xs.set j v)) b hv1 ⟨_, upd_same, h4.set rv j⟩
  exact z σ F3 _ R4 (((ev1.trans ev2).trans ev3).trans ev4)
inductive Tg where
  | n (i : Nat)
  | t (is : List Nat)
def Tg.slots : Tg → List Nat
  | .n i => [i]
  | .t is => is
def gNs : List Nat → TGs
  | [] => gNil
  | i :: is => gCons (gName i) (gNs is)
def gT (K : PySem.W.Frag) : Tg → TG
  | .n i => gName i
  | .t is => gTup K is.length (gNs is)
def bindS (env : En) : List Nat → List D → Option En
  | [], [] => some env
  | i :: is, d :: ds => bindS (env.set i (some (.fz d))) is ds
  | _, _ => none
def bindT (tg : Tg) (d : D) (env : En) : Option En :=
  match tg, d with
  | .n i, d => some (env.set i (some (.fz d)))
  | .t is, .tup ds => bindS env is ds
  | _, _ => none
def stS (σ : St) : List Nat → List V → St
  | i :: is, v :: vs => stS (σ.set i (some v)) is vs
  | _, _ => σ
theorem bindS_ok {M : Md} {F H : Hp} : ∀ {is : List Nat} {ds : List D} {vs : List V} {σ : St} {env env' : En} {Q : St → Hp → Prop}, (∀ i ∈ is, i ∉ c.pn) → Rel M c F H σ env → RepL M F vs ds → bindS env is ds = some env' →
    (Rel M c F H (stS σ is vs) env' → (∀ b, Own (stS σ is vs) env' b → Own σ env b) → Q (stS σ is vs) H) → gNs is vs σ H Q
  | [], [], [], σ, env, env', Q, _, R, _, e, q => by cases e; exact ⟨rfl, q R fun _ h => h⟩
  | i :: is, d :: ds, v :: vs, σ, env, env', Q, hi, R, .cons r rs, e, q => by
    refine ⟨v, vs, rfl, ?_⟩
    refine bindS_ok (is := is) (ds := ds) (fun j hj => hi j (List.mem_cons_of_mem _ hj)) (R.setFz' (hi i List.mem_cons_self) r) rs e fun R' ow => ?_
    exact q R' fun b hb => own_setFz b (ow b hb)
  | [], _ :: _, _, _, _, _, _, _, _, _, e, _ => by cases e
  | _ :: _, [], _, _, _, _, _, _, _, _, e, _ => by cases e
def stT (tg : Tg) (x : V) (vs : List V) (σ : St) : St :=
  match tg with
  | .n i => σ.set i (some x)
  | .t is => stS σ is vs
theorem bindT_ok {M : Md} {F H : Hp} {tg : Tg} {x : V} {d : D} {σ : St} {env env' : En} {Q : St → Hp → Prop} (hi : ∀ i ∈ tg.slots, i ∉ c.pn) (R : Rel M c F H σ env) (r : Rep M F x d) (e : bindT tg d env = some env')
    (q : ∀ vs, Rel M c F H (stT tg x vs σ) env' → (∀ b, Own (stT tg x vs σ) env' b → Own σ env b) → Q (stT tg x vs σ) H) : gT M.K tg x σ H Q := by
  cases tg with
  | n i =>
    cases e
    exact q [] (R.setFz' (hi i List.mem_cons_self) r) fun b hb => own_setFz b hb
  | t is =>
    cases r with
    | @tup a xs ds h rl =>
      have hl : xs.length = is.length := by
        rw [rl.length]
        have : ∀ {is : List Nat} {ds : List D} {env : En}, bindS env is ds = some env' → ds.length = is.length := by
          intro is
          induction is with
          | nil => intro ds env h; cases ds with
            | nil => rfl
            | cons _ _ => cases h
          | cons i is ih => intro ds env h; cases ds with
            | nil => cases h
            | cons d ds => rw [List.length_cons, List.length_cons, ih h]
        exact this e
      exact ⟨a, xs, rfl, Same.sqT R.sub h, hl, bindS_ok hi R rl e (q xs)⟩
    | _ => cases e
/-- the targets' own derivation -/
structure SG (X : Cx) (e : Expr) (tg : Tg) : Prop where
  pg : PG X e (gT X.K tg)
theorem sg_name {i : Nat} {x : Str} (hN : X.N.Nodup) (hi : X.N[i]? = some x) (hx : Loc X.env.scope x) (hf : X.fn x = true ∨ X.env.scope.names.lookup x = some .local := by first | exact .inl rfl | exact .inr rfl | assumption) : SG X (.Name x pos) (.n i) := ⟨pg_name hN hi hx hf⟩
abbrev KeepE := En → Prop
abbrev IW := En → (List D → KeepE → En → Prop) → XW → Prop
structure MonoI (w : IW) : Prop where
  mo : ∀ {env : En} {Q Q' : List D → KeepE → En → Prop} {E E' : XW}, (∀ xs k e, Q xs k e → Q' xs k e) → (∀ x e, E x e → E' x e) → w env Q E → w env Q' E'
/-- the iterator J gives the items xs, in any later state where keep holds -/
structure Walks (M : Md) (c : Ct) (F : Hp) (J : It) (xs : List D) (keep : KeepE) : Prop where
  stop : ∀ F' H' σ' env', Rel M c F' H' σ' env' → Same F F' → keep env' → ∀ i, xs.length ≤ i → J.stop i H'
  go : ∀ F' H' σ' env', Rel M c F' H' σ' env' → Same F F' → keep env' → ∀ i d, xs[i]? = some d → J.go i H' ∧ ∀ x H'', J.yld i H' x H'' → ∃ F'', Same F'' H'' ∧ Evo Nob Nob F' H' F'' H'' ∧ Rep M F'' x d
def IRd (M : Md) (c : Ct) (W : WX) (w : IW) : TI := fun σ H R => ∃ F env, Rel M c F H σ env ∧ w env (fun xs keep env' => ∀ F' H' J, Rel M c F' H' σ env' → Evo (Own σ env) (Own σ env') F H F' H' → Walks M c F' J xs keep → R J H') (XPost M c W F H σ env)
structure SI (X : Cx) (c : Ct) (W : WX) (tg iter : Expr) (w : IW) : Prop where
  pi : PI X tg iter (IRd (mdX X) c W w)
  mo : MonoI w
def loopW (tg : Tg) (body : SW) (keep : KeepE) (K : Ks) : List D → En → Prop
  | [], env => keep env ∧ K.nx env
  | d :: ds, env => keep env ∧ ∃ e1, bindT tg d env = some e1 ∧ body { K with nx := loopW tg body keep K ds, ct := loopW tg body keep K ds, bk := K.nx } e1
theorem loopW_mono {tg : Tg} {body : SW} {keep : KeepE} {K K' : Ks} (m : MonoS body) (k : KLe K K') : ∀ {ds : List D} {env : En}, loopW tg body keep K ds env → loopW tg body keep K' ds env
  | [], _, ⟨a, h⟩ => ⟨a, k.nx _ h⟩
  | d :: ds, _, ⟨a, e1, b, h⟩ => ⟨a, e1, b, m.mo (K := { K with nx := loopW tg body keep K ds, ct := loopW tg body keep K ds, bk := K.nx }) ⟨fun _ q => loopW_mono m k q, k.rt, k.nx, fun _ q => loopW_mono m k q, k.ex⟩ h⟩
def wFor (tg : Tg) (it : IW) (body : SW) : SW := fun K env => it env (fun xs keep e => loopW tg body keep K xs e) K.ex
theorem PI.imp {X : Cx} {tg e : Expr} {t t' : TI} (h : PI X tg e t) (i : ∀ σ H Q, t' σ H Q → t σ H Q) : PI X tg e t' := ⟨fun pins s σ H Q I q => h.run pins s σ H Q I (i σ H Q q)⟩
theorem ss_for {tgE iter : Expr} {body : List Stmt} {tg : Tg} {it : IW} {wb : SW} (hp : PassesOwn (model X.prog X.w) X.A X.env X.xe) (hc : X.calm = true) (hi : SI X c W tgE iter it) (hg : SG X tgE tg) (hpn : ∀ i ∈ tg.slots, i ∉ c.pn) (hb : SSs X c W body wb)
    (hs : ∀ x, foldedSetIterable iter X.env x = pure x := by intro _; rfl) : SS X c W (.For tgE iter body [] pos) (wFor tg it wb) := by
  refine ⟨PS.imp (ps_for hp hc hi.pi hg.pg hb.ps hs) fun D σ H q => ?_, ⟨fun k q => hi.mo.mo (fun _ _ _ z => loopW_mono hb.mo k z) (fun _ _ z => k.ex _ _ z) q⟩⟩
  obtain ⟨F, env, R, q⟩ := q
  refine ⟨F, env, R, hi.mo.mo (fun xs keep e1 z => ?_) (fun _ _ z => z.xp) q⟩
  intro F1 H1 J R1 ev1 wk
  refine ⟨fun i m σ' H' => m = xs.length - i ∧ i ≤ xs.length ∧ ∃ F' env', Rel (mdX X) c F' H' σ' env' ∧ Same F1 F' ∧ Evo (Own σ env) (Own σ' env') F H F' H' ∧ loopW tg wb keep (KsOf (mdX X) c W D F H σ env) (xs.drop i) env',
    ⟨xs.length, by simp, Nat.zero_le _, F1, e1, R1, Same.refl _, ev1, z⟩, ?_⟩
  rintro i m σ' H' ⟨rfl, hi, F', env', R', sm, ev, lw⟩
  by_cases hlt : i < xs.length
  · have hd : xs.drop i = xs[i] :: xs.drop (i + 1) := List.drop_eq_getElem_cons hlt
    rw [hd] at lw
    obtain ⟨kp, e2, hb2, lw⟩ := lw
    obtain ⟨go, yld⟩ := wk.go F' H' σ' env' R' sm kp i xs[i] (List.getElem?_eq_getElem hlt)
    refine .inr ⟨go, fun σ'' H'' => i + 1 ≤ xs.length ∧ ∃ F'' env'', Rel (mdX X) c F'' H'' σ'' env'' ∧ Same F1 F'' ∧ Evo (Own σ env) (Own σ'' env'') F H F'' H'' ∧ loopW tg wb keep (KsOf (mdX X) c W D F H σ env) (xs.drop (i + 1)) env'',
      fun σ'' H'' ⟨h1, h2⟩ => ⟨xs.length - (i + 1), by omega, rfl, h1, h2⟩, fun x H'' hy => ?_⟩
    obtain ⟨F2, s2, ev2, rx⟩ := yld x H'' hy
    have R2 := R'.evo ev2 s2
    refine bindT_ok hpn R2 rx hb2 fun vs R3 ow3 => ?_
    have ev3 : Evo (Own σ env) (Own (stT tg x vs σ') e2) F H F2 H'' := (ev.trans ev2.nob).trans (Evo.sub ow3)
    have sm3 : Same F1 F2 := sm.trans ev2.fs
    refine ⟨F2, e2, R3, hb.mo.mo (K := { KsOf (mdX X) c W D F H σ env with nx := loopW tg wb keep (KsOf (mdX X) c W D F H σ env) (xs.drop (i + 1)), ct := loopW tg wb keep (KsOf (mdX X) c W D F H σ env) (xs.drop (i + 1)), bk := NxP (mdX X) c F H σ env D.nx }) ⟨fun e q σ4 F4 H4 R4 ev4 => ?_, fun r e q v σ4 F4 H4 R4 ev4 ok => q v σ4 F4 H4 R4 (ev3.trans ev4) ok, fun e q σ4 F4 H4 R4 ev4 => q σ4 F4 H4 R4 (ev3.trans ev4), fun e q σ4 F4 H4 R4 ev4 => ?_, fun x e q cl d σ4 F4 H4 R4 ev4 ok => q cl d σ4 F4 H4 R4 (ev3.trans ev4) ok⟩ lw⟩
    · exact ⟨hlt, F4, e, R4, sm3.trans ev4.fs, ev3.trans ev4, q⟩
    · exact ⟨hlt, F4, e, R4, sm3.trans ev4.fs, ev3.trans ev4, q⟩
  · have e : i = xs.length := by omega
    subst e
    rw [List.drop_length] at lw
    obtain ⟨kp, lw⟩ := lw
    exact .inl ⟨wk.stop F' H' σ' env' R' sm kp _ (Nat.le_refl _), lw σ' F' H' R' ev⟩
end
end LV
namespace LV
open PySem PySem.Spec L2 RZ
def iAny (K : PySem.W.Frag) (te : TE) : TI := fun σ H R => te σ H fun x H1 => (∃ a, x = .ref a ∧ (∃ xs, SqL K H1 a xs) ∧ R (Itl K a) H1) ∨ (∃ a, x = .ref a ∧ (∃ xs, SqT K H1 a xs) ∧ R (Itt K a) H1) ∨ (∃ z, x = .str z ∧ R (Its z) H1)
theorem pi_anyS {X : Cx} {tg e : Expr} {te : TE} (he : PE X e te) : PI X tg e (iAny X.K te) := by
  refine ⟨fun pins s σ H R I h => ?_⟩
  refine thn (he.run pins s σ H _ I h) fun v s1 ⟨x, H1, I1, r1, q1⟩ => ?_
  rcases q1 with ⟨a, rfl, ⟨xs, hq⟩, q⟩ | ⟨a, rfl, ⟨xs, hq⟩, q⟩ | ⟨z, rfl, q⟩
  · cases r1
    obtain ⟨its, rv, p, hz⟩ := I1.list hq
    refine wpAny_pyIter_list p.isList ?_
    refine ⟨s1.heap.objs.size, [s1.heap.objs.size], _, _, H1, rfl, I1.kept (t' := s1.toks) fun b o e => Heap.get?_push_of_some _ e, turn_list a _, ⟨_, Heap.get?_push_size _ rfl, rfl, rfl⟩, fun b hb => ?_, q⟩
    have e : b = s1.heap.objs.size := by simpa using hb
    subst e
    exact I1.fpOk (Nat.le_refl _) (I1.hok.fresh (Nat.le_refl _))
  · cases r1
    obtain ⟨its, rv, p, hz⟩ := I1.tuple hq
    refine wpAny_pyIter_tuple (show s1.heap.IsTuple a its.toArray from p) ?_
    refine ⟨s1.heap.objs.size, [s1.heap.objs.size], _, _, H1, rfl, I1.kept (t' := s1.toks) fun b o e => Heap.get?_push_of_some _ e, turn_tuple a _, ⟨_, Heap.get?_push_size _ rfl, rfl, rfl⟩, fun b hb => ?_, q⟩
    have e : b = s1.heap.objs.size := by simpa using hb
    subst e
    exact I1.fpOk (Nat.le_refl _) (I1.hok.fresh (Nat.le_refl _))
  · obtain ⟨t, rfl⟩ := r1
    cases ha : z.cps.all (· < 128)
    · exact wpAny_pyIter_wide ha (pi_one (tk := s1.toks) I1 _ (turn_str _ z t "str_iterator" (.inr rfl)) ⟨_, Heap.get?_push_size _ rfl, rfl, rfl⟩ q)
    · exact wpAny_pyIter_ascii ha (pi_one (tk := s1.toks) I1 _ (turn_str _ z t "str_ascii_iterator" (.inl rfl)) ⟨_, Heap.get?_push_size _ rfl, rfl, rfl⟩ q)
/-- the items of a value that is walked -/
def itemsD : D → Option (List D)
  | .tup ds => some ds
  | .lst ds => some ds
  | .scr ns => some (ns.map D.int)
  | .str z => some (z.cps.toList.map fun c => D.str ⟨#[c]⟩)
  | _ => none
def yesK : KeepE := fun _ => True
def itR (pn : List Nat) (r : Rv) (e : En) (Q : List D → KeepE → En → Prop) : Prop :=
  match r with
  | .fz d => ∃ xs, itemsD d = some xs ∧ Q xs yesK e
  | .ow o => ∃ xs, itemsD o.d = some xs ∧ Q xs yesK e
  | .sl j => if j ∈ pn then ∃ xs, e[j]? = some (some (.ow (.lst xs))) ∧ Q xs (fun e' => e'[j]? = some (some (.ow (.lst xs)))) e
    else ∃ d e2 xs, frz1 e (.sl j) = some (d, e2) ∧ itemsD d = some xs ∧ Q xs yesK e2
theorem itR_mono {pn : List Nat} {r : Rv} {e : En} {Q Q' : List D → KeepE → En → Prop} (h : ∀ xs k e, Q xs k e → Q' xs k e) (q : itR pn r e Q) : itR pn r e Q' := by
  cases r with
  | fz d => obtain ⟨xs, a, q⟩ := q; exact ⟨xs, a, h _ _ _ q⟩
  | ow o => obtain ⟨xs, a, q⟩ := q; exact ⟨xs, a, h _ _ _ q⟩
  | sl j =>
    unfold itR at q ⊢
    dsimp only at q ⊢
    split at q
    · rename_i hj
      rw [if_pos hj]
      obtain ⟨xs, a, q⟩ := q; exact ⟨xs, a, h _ _ _ q⟩
    · rename_i hj
      rw [if_neg hj]
      obtain ⟨d, e2, xs, a, b, q⟩ := q; exact ⟨d, e2, xs, a, b, h _ _ _ q⟩
def wIt (pn : List Nat) (w : EW) : IW := fun env Q E => w env (fun r e => itR pn r e Q) E
section
variable {X : Cx} {c : Ct} {W : WX} {tg e a b d : Expr} {w wa wb wd : EW} {pos p tpos : Pos} {wl : AW} {es elts : List Expr} {kk : Nat}
theorem MonoI.it {pn : List Nat} (m : Mono w) : MonoI (wIt pn w) := ⟨fun hQ hE h => m.mo (fun _ _ z => itR_mono hQ z) hE h⟩
theorem Walks.list {M : Md} {F H : Hp} {σ : St} {env : En} {p : Addr} {xs : List V} {ds : List D} (h : F p = some (.lst xs)) (r : RepL M F xs ds) : Walks M c F (Itl M.K p) ds yesK := by
  have key : ∀ F' H' σ' env', Rel M c F' H' σ' env' → Same F F' → SqL M.K H' p xs := fun F' H' σ' env' R s => .inl (.inl (R.sub _ _ (s _ _ h)))
  refine ⟨fun F' H' σ' env' R s _ i hi => ⟨xs, key F' H' σ' env' R s, by rw [r.length]; exact hi⟩, fun F' H' σ' env' R s _ i d hd => ?_⟩
  obtain ⟨v, hv, rv⟩ := r.get' hd
  have k := key F' H' σ' env' R s
  refine ⟨⟨xs, v, k, hv⟩, fun x H'' ⟨e, y⟩ => ?_⟩
  subst e
  have := y xs k
  rw [hv] at this; cases this
  exact ⟨F', R.sub, Evo.refl, rv.same s⟩
theorem Walks.keptList {M : Md} {F H : Hp} {σ : St} {env : En} {j : Nat} {p : Addr} {xs : List V} {ds : List D} (hj : j ∈ c.pn) (R0 : Rel M c F H σ env) (hp : σ[j]? = some (some (.ref p))) (h : H p = some (.lst xs)) (r : RepL M F xs ds) :
    Walks M c F (Itl M.K p) ds (fun e' => e'[j]? = some (some (.ow (.lst ds)))) := by
  have key : ∀ F' H' σ' env', Rel M c F' H' σ' env' → env'[j]? = some (some (.ow (.lst ds))) → ∃ ys, SqL M.K H' p ys ∧ RepL M F' ys ds := fun F' H' σ' env' R k => by
    obtain ⟨q, h1, h2, ys, h3, h4⟩ := R.ow j _ k
    rw [R.pin j hj, ← R0.pin j hj, hp] at h1; cases h1
    exact ⟨ys, .inl (.inl h3), h4⟩
  refine ⟨fun F' H' σ' env' R s k i hi => ?_, fun F' H' σ' env' R s k i d hd => ?_⟩
  · obtain ⟨ys, h1, h2⟩ := key F' H' σ' env' R k
    exact ⟨ys, h1, by rw [h2.length]; exact hi⟩
  · obtain ⟨ys, h1, h2⟩ := key F' H' σ' env' R k
    obtain ⟨v, hv, rv⟩ := h2.get' hd
    refine ⟨⟨ys, v, h1, hv⟩, fun x H'' ⟨e, y⟩ => ?_⟩
    subst e
    have := y ys h1
    rw [hv] at this; cases this
    exact ⟨F', R.sub, Evo.refl, rv⟩
theorem Walks.tup {M : Md} {F : Hp} {p : Addr} {xs : List V} {ds : List D} (h : SqT M.K F p xs) (r : RepL M F xs ds) : Walks M c F (Itt M.K p) ds yesK := by
  have key : ∀ F' H' σ' env', Rel M c F' H' σ' env' → Same F F' → SqT M.K H' p xs := fun F' H' σ' env' R s => Same.sqT (s.trans R.sub) h
  refine ⟨fun F' H' σ' env' R s _ i hi => ⟨xs, key F' H' σ' env' R s, by rw [r.length]; exact hi⟩, fun F' H' σ' env' R s _ i d hd => ?_⟩
  obtain ⟨v, hv, rv⟩ := r.get' hd
  have k := key F' H' σ' env' R s
  refine ⟨⟨xs, v, k, hv⟩, fun x H'' ⟨e, y⟩ => ?_⟩
  subst e
  have := y xs k
  rw [hv] at this; cases this
  exact ⟨F', R.sub, Evo.refl, rv.same s⟩
theorem Walks.scr {M : Md} {F : Hp} {p : Addr} {ns : List Int} (h : SqL M.K F p (ns.map V.int)) : Walks M c F (Itl M.K p) (ns.map D.int) yesK := by
  have key : ∀ F' H' σ' env', Rel M c F' H' σ' env' → Same F F' → SqL M.K H' p (ns.map V.int) := fun F' H' σ' env' R s => (s.trans R.sub).seq h
  have r : RepL M F (ns.map V.int) (ns.map D.int) := RepL.of_ints ns
  refine ⟨fun F' H' σ' env' R s _ i hi => ⟨_, key F' H' σ' env' R s, by rw [r.length]; exact hi⟩, fun F' H' σ' env' R s _ i d hd => ?_⟩
  obtain ⟨v, hv, rv⟩ := r.get' hd
  have k := key F' H' σ' env' R s
  refine ⟨⟨_, v, k, hv⟩, fun x H'' ⟨e, y⟩ => ?_⟩
  subst e
  have := y _ k
  rw [hv] at this; cases this
  exact ⟨F', R.sub, Evo.refl, rv.same s⟩
theorem Walks.str {M : Md} {F : Hp} {z : Str} : Walks M c F (Its z) (z.cps.toList.map fun c => D.str ⟨#[c]⟩) yesK := by
  refine ⟨fun F' H' σ' env' R s _ i hi => by simpa [Its] using hi, fun F' H' σ' env' R s _ i d hd => ?_⟩
  rw [List.getElem?_map] at hd
  cases hc : z.cps.toList[i]? with
  | none => rw [hc] at hd; cases hd
  | some cp =>
    rw [hc] at hd; cases hd
    have hc' : z.cps[i]? = some cp := by simpa using hc
    refine ⟨(Array.getElem?_eq_some_iff.mp hc').1, fun x H'' ⟨e, cp', h1, h2⟩ => ?_⟩
    subst e; subst h2
    rw [hc'] at h1; cases h1
    exact ⟨F', R.sub, Evo.refl, .str _⟩
/-- the walk over a value that is data -/
theorem walk_fz {M : Md} {F H : Hp} {σ : St} {env : En} {x : V} {d : D} {xs : List D} {R' : It → Hp → Prop} (R : Rel M c F H σ env) (r : Rep M F x d) (hi : itemsD d = some xs) (q : ∀ J, Walks M c F J xs yesK → R' J H) :
    (∃ a, x = .ref a ∧ (∃ xs, SqL M.K H a xs) ∧ R' (Itl M.K a) H) ∨ (∃ a, x = .ref a ∧ (∃ xs, SqT M.K H a xs) ∧ R' (Itt M.K a) H) ∨ (∃ z, x = .str z ∧ R' (Its z) H) := by
  cases r with
  | tup h r => cases hi; exact .inr (.inl ⟨_, rfl, ⟨_, Same.sqT R.sub h⟩, q _ (Walks.tup h r)⟩)
  | lst h r => cases hi; exact .inl ⟨_, rfl, ⟨_, .inl (.inl (R.sub _ _ h))⟩, q _ (Walks.list (H := H) (σ := σ) (env := env) h r)⟩
  | scr h => cases hi; exact .inl ⟨_, rfl, ⟨_, R.sub.seq h⟩, q _ (Walks.scr h)⟩
  | str z => cases hi; exact .inr (.inr ⟨z, rfl, q _ Walks.str⟩)
  | _ => cases hi
theorem si_it (h : SE X c W e w) : SI X c W tg e (wIt c.pn w) := by
  refine ⟨PI.imp (pi_anyS h.pe) fun σ H R' q => ?_, .it h.mo⟩
  obtain ⟨F, env, R, q⟩ := q
  refine ⟨F, env, R, h.mo.mo (fun r e1 z => ?_) (fun _ _ z => z) q⟩
  intro v F1 H1 R1 ev1 ok
  cases r with
  | fz d =>
    obtain ⟨xs, hx, z⟩ := z
    exact walk_fz R1 ok hx fun J wk => z F1 H1 J R1 ev1 wk
  | ow o =>
    obtain ⟨xs, hx, z⟩ := z
    obtain ⟨F2, R2, ev2, rp⟩ := temp_freeze R1 ev1 ok
    exact walk_fz R2 rp hx fun J wk => z _ H1 J R2 ev2 wk
  | sl j =>
    obtain ⟨h1, o, h2⟩ := ok
    unfold itR at z
    dsimp only at z
    split at z
    · rename_i hj
      obtain ⟨xs, hx, z⟩ := z
      obtain ⟨pp, h3, h4, ys, h5, h6⟩ := R1.ow j _ hx
      rw [h1] at h3; cases h3
      exact .inl ⟨pp, rfl, ⟨ys, .inl (.inl h5)⟩, z F1 H1 _ R1 ev1 (Walks.keptList hj R1 h1 h5 h6)⟩
    · obtain ⟨dd, e2, xs, ha, hx, z⟩ := z
      obtain ⟨F2, R2, ev2, rv⟩ := frz1_ok (r := .sl j) R1 h1 ha
      exact walk_fz R2 rv hx fun J wk => z F2 H1 J R2 (ev1.trans ev2) wk
def rngD (lo : Int) : Nat → List D
  | 0 => []
  | n + 1 => .int lo :: rngD (lo + 1) n
theorem rngD_len : ∀ (n : Nat) (lo : Int), (rngD lo n).length = n
  | 0, _ => rfl
  | n + 1, lo => by rw [rngD, List.length_cons, rngD_len n]
theorem rngD_get : ∀ (n : Nat) (lo : Int) (i : Nat), i < n → (rngD lo n)[i]? = some (.int (lo + i))
  | 0, _, i, h => by omega
  | n + 1, lo, 0, _ => by simp [rngD]
  | n + 1, lo, i + 1, h => by
    rw [rngD, List.getElem?_cons_succ, rngD_get n (lo + 1) i (by omega)]
    congr 2
    omega
theorem Walks.rng {M : Md} {F : Hp} {lo : Int} {n : Nat} : Walks M c F (Itr lo n) (rngD lo n) yesK := by
  refine ⟨fun F' H' σ' env' R s _ i hi => by rw [rngD_len] at hi; exact hi, fun F' H' σ' env' R s _ i d hd => ?_⟩
  have hi : i < n := by
    have := (List.getElem?_eq_some_iff.mp hd).1
    rw [rngD_len] at this; exact this
  rw [rngD_get n lo i hi] at hd; cases hd
  refine ⟨hi, fun x H'' ⟨e, y⟩ => ?_⟩
  subst e; subst y
  exact ⟨F', R.sub, Evo.refl, .int _⟩
/-- range(n), range(a, b) -/
def okR (i : Int) : Prop := -(2 ^ 62) ≤ i ∧ i < 2 ^ 62
def wRng1 (wl : AW) : IW := fun env Q E => wl env (fun rs e => ∃ j, lookL e rs = some [.int j] ∧ okR j ∧ Q (rngD 0 j.toNat) yesK e) E
def wRng2 (wl : AW) : IW := fun env Q E => wl env (fun rs e => ∃ i j, lookL e rs = some [.int i, .int j] ∧ okR i ∧ okR j ∧ Q (rngD i (j - i).toNat) yesK e) E
theorem vwL_int1 {M : Md} {F H : Hp} {vs : List V} {i : Int} (h : VwL M F H vs [.int i]) : vs = [.int i] := by
  match vs, h with
  | [v], ⟨h, _⟩ => cases (show v = .int i from h); rfl
theorem vwL_int3 {M : Md} {F H : Hp} {vs : List V} {i j k : Int} (h : VwL M F H vs [.int i, .int j, .int k]) : vs = [.int i, .int j, .int k] := by
  match vs, h with
  | [v, u, w], ⟨h, h2, h3, _⟩ => cases (show v = .int i from h); cases (show u = .int j from h2); cases (show w = .int k from h3); rfl
theorem si_rng1 (hg : Gl X "range") (hm : X.mg "range" = none) (ha : SA X c W [a] wl) (hs : starEach [a] X.env = [(false, eval a X.env)] := by rfl) : SI X c W tg (.Call (.Name "range" p) [a] [] pos) (wRng1 wl) := by
  refine ⟨PI.imp (pi_range1 hg hm ha.pa hs) fun σ H R' q => ?_, ⟨fun hQ hE h => ha.mo.mo (fun rs e ⟨j, l, o, z⟩ => ⟨j, l, o, hQ _ _ _ z⟩) hE h⟩⟩
  obtain ⟨F, env, R, q⟩ := q
  refine ⟨F, env, R, ha.mo.mo (fun rs e1 ⟨j, l, o, z⟩ => ?_) (fun _ _ z => z) q⟩
  intro vs F1 H1 R1 ev1 ok
  exact ⟨j, vwL_int1 (ok.vw R1 l), o.1, o.2, z F1 H1 _ R1 ev1 Walks.rng⟩
def zipD : List D → List D → List D
  | a :: as, b :: bs => .tup [a, b] :: zipD as bs
  | _, _ => []
def wZip (wl : AW) : IW := fun env Q E => wl env (fun rs e => ∃ ds e', frzL e rs = some (ds, e') ∧ ((∃ as bs, ds = [.tup as, .tup bs] ∧ Q (zipD as bs) yesK e') ∨ (∃ as bs, ds = [.lst as, .lst bs] ∧ Q (zipD as bs) yesK e'))) E
end
end LV
namespace LV
open PySem PySem.Spec L2
def wipeE (env : En) : List Nat → En
  | [] => env
  | v :: vs => (wipeE env vs).set v none
theorem wipeE_len (env : En) : ∀ vs : List Nat, (wipeE env vs).length = env.length
  | [] => rfl
  | v :: vs => by rw [wipeE, List.length_set, wipeE_len env vs]
theorem wipeE_in {env : En} {i : Nat} {x : Val} : ∀ {vs : List Nat}, (wipeE env vs)[i]? = some (some x) → env[i]? = some (some x) ∧ i ∉ vs
  | [], h => ⟨h, by simp⟩
  | v :: vs, h => by
    rw [wipeE] at h
    by_cases hi : v = i
    · subst hi
      by_cases hv : v < (wipeE env vs).length
      · rw [List.getElem?_set_self hv] at h; cases h
      · rw [List.getElem?_eq_none (by simpa using hv)] at h; cases h
    · rw [List.getElem?_set_ne hi] at h
      obtain ⟨h1, h2⟩ := wipeE_in h
      exact ⟨h1, by simp only [List.mem_cons, not_or]; exact ⟨fun e => hi e.symm, h2⟩⟩
theorem wipe_out' {σ : St} {i : Nat} : ∀ {vs : List Nat}, i ∉ vs → (wipe σ vs)[i]? = σ[i]?
  | [], _ => rfl
  | v :: vs, h => by
    have hv : v ≠ i := fun z => h (z ▸ List.mem_cons_self)
    rw [wipe, List.getElem?_set_ne hv, wipe_out' fun z => h (List.mem_cons_of_mem _ z)]
theorem wipe_at {σ : St} {i : Nat} : ∀ {vs : List Nat}, i ∈ vs → (wipe σ vs)[i]? = if i < σ.length then some none else none
  | [], h => nomatch h
  | v :: vs, h => by
    rw [wipe]
    by_cases hv : v = i
    · subst hv
      by_cases hl : v < σ.length
      · rw [List.getElem?_set_self (by rw [wipe_length]; exact hl), if_pos hl]
      · rw [List.getElem?_eq_none (by rw [List.length_set, wipe_length]; omega), if_neg hl]
    · rw [List.getElem?_set_ne hv]
      rcases List.mem_cons.mp h with e | h
      · exact absurd e.symm hv
      · exact wipe_at h
theorem wipe_congr {σ σ' : St} {vs : List Nat} (hl : σ'.length = σ.length) (h : ∀ i, i ∉ vs → σ'[i]? = σ[i]?) : wipe σ' vs = wipe σ vs := by
  apply List.ext_getElem?
  intro i
  by_cases hi : i ∈ vs
  · rw [wipe_at hi, wipe_at hi, hl]
  · rw [wipe_out' hi, wipe_out' hi, h i hi]
theorem stS_len : ∀ {is : List Nat} {vs : List V} {σ : St}, (stS σ is vs).length = σ.length
  | [], _, _ => by unfold stS; rfl
  | i :: is, [], _ => rfl
  | i :: is, v :: vs, σ => by
    show (stS (σ.set i (some v)) is vs).length = _
    rw [stS_len, List.length_set]
theorem stS_out : ∀ {is : List Nat} {vs : List V} {σ : St} {j : Nat}, j ∉ is → (stS σ is vs)[j]? = σ[j]?
  | [], _, _, _, _ => by unfold stS; rfl
  | i :: is, [], _, _, _ => rfl
  | i :: is, v :: vs, σ, j, h => by
    have hi : i ≠ j := fun z => h (z ▸ List.mem_cons_self)
    show (stS (σ.set i (some v)) is vs)[j]? = _
    rw [stS_out fun z => h (List.mem_cons_of_mem _ z), List.getElem?_set_ne hi]
theorem wipe_stT {tg : Tg} {x : V} {us : List V} {σ : St} {vs : List Nat} (h : ∀ i ∈ tg.slots, i ∈ vs) : wipe (stT tg x us (wipe σ vs)) vs = wipe σ vs := by
  refine wipe_congr ?_ fun i hi => ?_
  · cases tg with
    | n j => show ((wipe σ vs).set j _).length = _; rw [List.length_set, wipe_length]
    | t is => show (stS (wipe σ vs) is us).length = _; rw [stS_len, wipe_length]
  · cases tg with
    | n j =>
      have : j ≠ i := fun z => hi (z ▸ h j List.mem_cons_self)
      show ((wipe σ vs).set j _)[i]? = _
      rw [List.getElem?_set_ne this, wipe_out' hi]
    | t is =>
      show (stS (wipe σ vs) is us)[i]? = _
      rw [stS_out (is := is) fun z => hi (h i z), wipe_out' hi]
section
variable {M : Md} {c : Ct} {F H : Hp} {σ : St} {env : En} {vs : List Nat}
theorem Rel.wiped (R : Rel M c F H σ env) (hv : ∀ i ∈ vs, i ∉ c.pn) : Rel M c F H (wipe σ vs) (wipeE env vs) := by
  refine ⟨R.sub, by rw [wipe_length, wipeE_len]; exact R.len, fun i d h => ?_, fun i o h => ?_, fun i a C ks ds h => ?_, fun i j o u p h1 h2 h3 h4 => ?_, fun i hi => ?_, R.old, fun i o p h hn hp => ?_, fun i o b h hb => ?_, R.oldN⟩
  · obtain ⟨h1, h2⟩ := wipeE_in h
    rw [wipe_out' h2]; exact R.fz i d h1
  · obtain ⟨h1, h2⟩ := wipeE_in h
    rw [wipe_out' h2]; exact R.ow i o h1
  · obtain ⟨h1, h2⟩ := wipeE_in h
    rw [wipe_out' h2]; exact R.ex i a C ks ds h1
  · obtain ⟨a1, a2⟩ := wipeE_in h1
    obtain ⟨b1, b2⟩ := wipeE_in h2
    rw [wipe_out' a2] at h3
    rw [wipe_out' b2] at h4
    exact R.sep i j o u p a1 b1 h3 h4
  · rw [wipe_out' fun z => hv i z hi]; exact R.pin i hi
  · obtain ⟨h1, h2⟩ := wipeE_in h
    rw [wipe_out' h2] at hp
    exact R.fr i o p h1 hn hp
  · exact R.frN i o b (wipeE_in h).1 hb
theorem own_wipe : ∀ b, Own (wipe σ vs) (wipeE env vs) b → Own σ env b := fun b ⟨i, o, h1, h2⟩ => by
  obtain ⟨a1, a2⟩ := wipeE_in h1
  rw [wipe_out' a2] at h2
  exact ⟨i, o, a1, h2⟩
theorem Rel.unwipe (R : Rel M c F H (wipe σ vs) (wipeE env vs)) (hv : ∀ i ∈ vs, i ∉ c.pn) : Rel M c F H σ (wipeE env vs) := by
  refine ⟨R.sub, by have := R.len; rw [wipe_length] at this; exact this, fun i d h => ?_, fun i o h => ?_, fun i a C ks ds h => ?_, fun i j o u p h1 h2 h3 h4 => ?_, fun i hi => ?_, R.old, fun i o p h hn hp => ?_, fun i o b h hb => ?_, R.oldN⟩
  · have h2 := (wipeE_in h).2
    obtain ⟨v, a, b⟩ := R.fz i d h
    rw [wipe_out' h2] at a; exact ⟨v, a, b⟩
  · have h2 := (wipeE_in h).2
    obtain ⟨v, a, b⟩ := R.ow i o h
    rw [wipe_out' h2] at a; exact ⟨v, a, b⟩
  · have h2 := (wipeE_in h).2
    have := R.ex i a C ks ds h
    rw [wipe_out' h2] at this; exact this
  · have a2 := (wipeE_in h1).2
    have b2 := (wipeE_in h2).2
    exact R.sep i j o u p h1 h2 (by rw [wipe_out' a2]; exact h3) (by rw [wipe_out' b2]; exact h4)
  · have := R.pin i hi
    rw [wipe_out' fun z => hv i z hi] at this; exact this
  · have h2 := (wipeE_in h).2
    exact R.fr i o p h hn (by rw [wipe_out' h2]; exact hp)
  · exact R.frN i o b h hb
theorem own_unwipe : ∀ b, Own σ (wipeE env vs) b → Own (wipe σ vs) (wipeE env vs) b := fun b ⟨i, o, h1, h2⟩ => by
  have a2 := (wipeE_in h1).2
  exact ⟨i, o, h1, by rw [wipe_out' a2]; exact h2⟩
end
abbrev W0 : WX := fun _ _ _ _ => False
abbrev X0 : XW := fun _ _ => False
def compW (tg : Tg) (u : TW) (w : EW) (vs : List Nat) (keep : KeepE) (Q : List D → En → Prop) : List D → List D → En → Prop
  | [], acc, env => keep env ∧ Q acc env
  | d :: ds, acc, env => keep env ∧ ∃ e1, bindT tg d env = some e1 ∧ u e1 (fun b e2 => if b = true then wFz w e2 (fun r e3 => ∃ dd e4, frz1 e3 r = some (dd, e4) ∧ acc.length < sizeLine ∧ compW tg u w vs keep Q ds (acc ++ [dd]) (wipeE e4 vs)) X0 else compW tg u w vs keep Q ds acc (wipeE e2 vs)) X0
theorem compW_mono {tg : Tg} {u : TW} {w : EW} {vs : List Nat} {keep : KeepE} {Q Q' : List D → En → Prop} (mu : MonoT u) (mw : Mono w) (h : ∀ a e, Q a e → Q' a e) : ∀ {ds acc : List D} {env : En}, compW tg u w vs keep Q ds acc env → compW tg u w vs keep Q' ds acc env
  | [], _, _, ⟨a, q⟩ => ⟨a, h _ _ q⟩
  | d :: ds, acc, env, ⟨a, e1, b, q⟩ => ⟨a, e1, b, mu.mo (fun k e2 q => by
    cases k with
    | true =>
      rw [if_pos rfl] at q ⊢
      exact mw.fz.mo (fun r e3 ⟨dd, e4, f, l, q⟩ => ⟨dd, e4, f, l, compW_mono mu mw h q⟩) (fun _ _ z => z) q
    | false =>
      rw [if_neg Bool.false_ne_true] at q ⊢
      exact compW_mono mu mw h q) (fun _ _ z => z) q⟩
def wLc (tg : Tg) (it : IW) (u : TW) (w : EW) (vs : List Nat) : EW := fun env Q E => it env (fun xs keep e => compW tg u w vs keep (fun acc e' => Q (.ow (.lst acc)) e') xs [] (wipeE e vs)) E
theorem Mono.lc {tg : Tg} {it : IW} {u : TW} {w : EW} {vs : List Nat} (mi : MonoI it) (mu : MonoT u) (mw : Mono w) : Mono (wLc tg it u w vs) := ⟨fun hQ hE h => mi.mo (fun _ _ _ z => compW_mono mu mw (fun _ _ q => hQ _ _ q) z) hE h⟩
def uYes : TW := fun env Q _ => Q true env
structure STs (X : Cx) (c : Ct) (W : WX) (es : List Expr) (w : TW) : Prop where
  pt : PTs X es (TRd (mdX X) c W w)
  mo : MonoT w
theorem sts_nil {X : Cx} {c : Ct} {W : WX} : STs X c W [] uYes := ⟨⟨fun pins s σ H Q I h => by
  obtain ⟨F, env, R, h⟩ := h
  exact pts_nil.run pins s σ H Q I (h F H R Evo.refl)⟩, ⟨fun hQ _ h => hQ _ _ h⟩⟩
section
variable {M : Md} {c : Ct} {W : WX} {σ : St} {H : Hp}
theorem lc_rd {tg : Tg} {it : IW} {u : TW} {w : EW} {vs : List Nat} {Q : VK} (mi : MonoI it) (mu : MonoT u) (mw : Mono w) (hv : ∀ i ∈ vs, i ∉ c.pn) (ht : ∀ i ∈ tg.slots, i ∈ vs)
    (h : ERd M c W (wLc tg it u w vs) σ H Q) : tLc (IRd M c W it) (gT M.K tg) (TRd M c W0 u) (ERd M c W0 w) vs σ H Q := by
  obtain ⟨F, env, R, h⟩ := h
  refine ⟨F, env, R, mi.mo (fun xs keep e1 z => ?_) (fun _ _ z => z) h⟩
  intro F1 H1 J R1 ev1 wk D hD
  have hDF : F1 D = none := R1.sub.free hD
  have R2 : Rel M c F1 (upd H1 D (.lst [])) (wipe σ vs) (wipeE e1 vs) := (R1.evo (Evo.newO hD) (same_newO R1.sub hD)).wiped hv
  refine ⟨fun i m H' => m = xs.length - i ∧ i ≤ xs.length ∧ ∃ F' e0 acc accV, Rel M c F' H' (wipe σ vs) (wipeE e0 vs) ∧ Same F1 F' ∧ Evo (Own σ env) (Own (wipe σ vs) (wipeE e0 vs)) F H F' H' ∧ H' D = some (.lst accV) ∧ F' D = none ∧ ¬ Own (wipe σ vs) (wipeE e0 vs) D ∧ RepL M F' accV acc ∧
      compW tg u w vs keep (fun acc e' => EPost M c F H σ env Q (.ow (.lst acc)) e') (xs.drop i) acc (wipeE e0 vs),
    ⟨xs.length, by simp, Nat.zero_le _, F1, e1, [], [], R2, Same.refl _, (ev1.trans (Evo.newO hD).nob).trans (Evo.sub own_wipe), upd_same, hDF, fun z => R1.notOwn hD (own_wipe _ z), .nil, z⟩, ?_⟩
  rintro i m H' ⟨rfl, hi, F', e0, acc, accV, R', sm, ev, hDH, hDF', hDo, ra, cw⟩
  have wkk : ∀ {env' : En} {σ' : St} {F'' H'' : Hp}, True := fun {_ _ _ _} => True.intro
  by_cases hlt : i < xs.length
  · have hd : xs.drop i = xs[i] :: xs.drop (i + 1) := List.drop_eq_getElem_cons hlt
    rw [hd] at cw
    obtain ⟨kp, e2, hb2, cw⟩ := cw
    obtain ⟨go, yld⟩ := wk.go F' H' (wipe σ vs) (wipeE e0 vs) R' sm kp i xs[i] (List.getElem?_eq_getElem hlt)
    refine .inr ⟨go, fun H'' => ∃ F' e0 acc accV, Rel M c F' H'' (wipe σ vs) (wipeE e0 vs) ∧ Same F1 F' ∧ Evo (Own σ env) (Own (wipe σ vs) (wipeE e0 vs)) F H F' H'' ∧ H'' D = some (.lst accV) ∧ F' D = none ∧ ¬ Own (wipe σ vs) (wipeE e0 vs) D ∧ RepL M F' accV acc ∧
      compW tg u w vs keep (fun acc e' => EPost M c F H σ env Q (.ow (.lst acc)) e') (xs.drop (i + 1)) acc (wipeE e0 vs),
      fun H'' h => ⟨xs.length - (i + 1), by omega, rfl, hlt, h⟩, fun x H'' hy => ?_⟩
    obtain ⟨F2, s2, ev2, rx⟩ := yld x H'' hy
    have R2' := R'.evo ev2 s2
    obtain ⟨k1, k2, k3⟩ := ev2.nob.keepTemp (A := Own (wipe σ vs) (wipeE e0 vs)) hDH hDF' hDo
    refine bindT_ok (fun j hj => hv j (ht j hj)) R2' rx hb2 fun us R3 ow3 => ?_
    have w1 : wipe (stT tg x us (wipe σ vs)) vs = wipe σ vs := wipe_stT ht
    refine ⟨w1, ?_⟩
    have ev3 : Evo (Own σ env) (Own (stT tg x us (wipe σ vs)) e2) F H F2 H'' := (ev.trans ev2.nob).trans (Evo.sub ow3)
    have d3 : ¬ Own (stT tg x us (wipe σ vs)) e2 D := fun z => hDo (ow3 D z)
    refine ⟨F2, e2, R3, mu.mo (fun b e4 q => ?_) (fun _ _ z => z.elim) cw⟩
    intro F4 H4 R4 ev4
    obtain ⟨l1, l2, l3⟩ := ev4.keepTemp k1 k2 d3
    cases b with
    | false =>
      rw [if_neg Bool.false_ne_true] at q ⊢
      have R5 := R4.wiped hv
      rw [w1] at R5
      have o5 : ∀ b, Own (wipe σ vs) (wipeE e4 vs) b → Own (stT tg x us (wipe σ vs)) e4 b := fun b hb => own_wipe b (by rw [w1]; exact hb)
      exact ⟨F4, e4, acc, accV, R5, (sm.trans ev2.fs).trans ev4.fs, (ev3.trans ev4).trans (Evo.sub o5), l1, l2, fun z => l3 (o5 D z), ra.same (ev2.fs.trans ev4.fs), q⟩
    | true =>
      rw [if_pos rfl] at q ⊢
      refine opd mw R4 (mw.fz.mo (fun _ _ z => z) (fun _ _ z => z.elim) q) fun r e5 v F5 H5 R5 ev5 ok5 ⟨dd, e6, hf, hl, q⟩ => ?_
      obtain ⟨F6, R6, ev6, rv⟩ := frz1_ok R5 ok5 hf
      have ev56 := ev5.trans ev6
      obtain ⟨m1, m2, m3⟩ := ev56.keepTemp l1 l2 l3
      refine ⟨accV, m1, by rw [(ra.same (F' := F6) ((ev2.fs.trans ev4.fs).trans ev56.fs)).length]; exact hl, ?_⟩
      have R7 : Rel M c F6 (upd H5 D (.lst (accV ++ [v]))) (stT tg x us (wipe σ vs)) e6 := R6.tempW m2 m3
      have H0D : H D = none := ev1.noneOf hD
      have evA := (ev3.trans ev4).trans ev56
      have ev7 : Evo (Own σ env) (Own (stT tg x us (wipe σ vs)) e6) F H F6 (upd H5 D (.lst (accV ++ [v]))) := by
        refine ⟨evA.fs, evA.fn, fun b o hb hn => ?_, fun b o hb => ?_, evA.aa⟩
        · have : b ≠ D := fun z => by rw [z, H0D] at hb; cases hb
          rw [upd_ne this]; exact evA.hk b o hb hn
        · by_cases hbd : b = D
          · exact ⟨_, by rw [hbd]; exact upd_same⟩
          · rw [upd_ne hbd]; exact evA.ht b o hb
      have R8 := R7.wiped hv
      rw [w1] at R8
      have o8 : ∀ b, Own (wipe σ vs) (wipeE e6 vs) b → Own (stT tg x us (wipe σ vs)) e6 b := fun b hb => own_wipe b (by rw [w1]; exact hb)
      exact ⟨F6, e6, acc ++ [dd], accV ++ [v], R8, ((sm.trans ev2.fs).trans ev4.fs).trans ev56.fs, ev7.trans (Evo.sub o8), upd_same, m2, fun z => m3 (o8 D z), (ra.same ((ev2.fs.trans ev4.fs).trans ev56.fs)).append (.cons rv .nil), q⟩
  · have e : i = xs.length := by omega
    subst e
    rw [List.drop_length] at cw
    obtain ⟨kp, cw⟩ := cw
    refine .inl ⟨wk.stop F' H' (wipe σ vs) (wipeE e0 vs) R' sm kp _ (Nat.le_refl _), ?_⟩
    exact cw (.ref D) F' H' (R'.unwipe hv) (ev.trans (Evo.sub own_unwipe)) ⟨D, rfl, hDF', ⟨accV, hDH, ra⟩, hO fun z => hDo (own_unwipe D z), hH (ev1.noneOf hD)⟩
end
section
variable {X : Cx} {c : Ct} {W : WX} {elt tgE iter : Expr} {ifs : List Expr} {scope : Scope} {own : List (Str × Nat)} {pos : Pos} {tg : Tg} {it : IW} {u : TW} {w : EW}
theorem se_lc (hc : X.calm = true) (hN : X.N.Nodup) (hi : SI X c W tgE iter it) (ok : BlkOk X.N X.env.scope scope own) (hv : ∀ i ∈ own.map (·.2), i ∉ c.pn) (ht : ∀ i ∈ tg.slots, i ∈ own.map (·.2)) (mu : MonoT u) (mw : Mono w)
    (hg : ∀ (s : Shared) (H : Hp) (C : Addr) (cl : List (Str × Addr)) (fp : List Addr), SG (X.blk s H scope (compEnvC scope cl C X.env) fp) tgE tg)
    (hu : ∀ (s : Shared) (H : Hp) (C : Addr) (cl : List (Str × Addr)) (fp : List Addr), STs (X.blk s H scope (compEnvC scope cl C X.env) fp) c W0 ifs u)
    (he : ∀ (s : Shared) (H : Hp) (C : Addr) (cl : List (Str × Addr)) (fp : List Addr), SE (X.blk s H scope (compEnvC scope cl C X.env) fp) c W0 elt w)
    (hs : ∀ x, foldedSetIterable iter X.env x = pure x := by intro _; rfl) : SE X c W (.ListComp elt [⟨tgE, iter, ifs, 0⟩] scope pos) (wLc tg it u w (own.map (·.2))) :=
  ⟨PE.imp (pe_lc (te := ERd (mdX X) c W0 w) (tt := TRd (mdX X) c W0 u) (g := gT X.K tg) hc hN hi.pi ok (fun s H C cl fp => (hg s H C cl fp).pg) (fun s H C cl fp => (hu s H C cl fp).pt) (fun s H C cl fp => (he s H C cl fp).pe) hs) fun σ H Q h => lc_rd hi.mo mu mw hv ht h, .lc hi.mo mu mw⟩
theorem ss_setLc {i : Nat} {y : Str} {py spos : Pos} (hip : i ∉ c.pn) (hc : X.calm = true) (hN : X.N.Nodup) (hy : X.N[i]? = some y) (hyl : X.env.scope.names.lookup y = some .local)
    (hsw : swapsWith (.ListComp elt [⟨tgE, iter, ifs, 0⟩] scope pos) (some (.Name y py)) spos.line X.env = pure true) (hi : SI X c W tgE iter it) (ok : BlkOk X.N X.env.scope scope own) (hv : ∀ i ∈ own.map (·.2), i ∉ c.pn) (ht : ∀ i ∈ tg.slots, i ∈ own.map (·.2)) (mu : MonoT u) (mw : Mono w)
    (hg : ∀ (s : Shared) (H : Hp) (C : Addr) (cl : List (Str × Addr)) (fp : List Addr), SG (X.blk s H scope (compEnvC scope cl C X.env) fp) tgE tg)
    (hu : ∀ (s : Shared) (H : Hp) (C : Addr) (cl : List (Str × Addr)) (fp : List Addr), STs (X.blk s H scope (compEnvC scope cl C X.env) fp) c W0 ifs u)
    (he : ∀ (s : Shared) (H : Hp) (C : Addr) (cl : List (Str × Addr)) (fp : List Addr), SE (X.blk s H scope (compEnvC scope cl C X.env) fp) c W0 elt w)
    (hs : ∀ x, foldedSetIterable iter X.env x = pure x := by intro _; rfl) : SS X c W (.Assign [.Name y py] (.ListComp elt [⟨tgE, iter, ifs, 0⟩] scope pos) spos) (wSet i (wLc tg it u w (own.map (·.2)))) := by
  have mm : Mono (wLc tg it u w (own.map (·.2))) := .lc hi.mo mu mw
  refine ⟨PS.imp (ps_setLc (te := ERd (mdX X) c W0 w) (tt := TRd (mdX X) c W0 u) (g := gT X.K tg) hc hN hy hyl hsw hi.pi ok (fun s H C cl fp => (hg s H C cl fp).pg) (fun s H C cl fp => (hu s H C cl fp).pt) (fun s H C cl fp => (he s H C cl fp).pe) hs) fun D σ H q => ?_,
    ⟨fun k q => mm.mo (fun _ _ z => setR_mono (fun _ z => k.nx _ z) z) (fun _ _ z => k.ex _ _ z) q⟩⟩
  obtain ⟨F, env, R, q⟩ := q
  refine lc_rd hi.mo mu mw hv ht ⟨F, env, R, mm.mo (fun r e z => ?_) (fun _ _ z => z.xp) q⟩
  intro v F' H' R' ev ok
  obtain ⟨F2, e2, n, R2, ev2⟩ := setR_ok hip R R' ev ok z
  exact n _ F2 H' R2 ev2
end
end LV
namespace LV
open PySem PySem.Spec L2
def startE (n : Nat) (args : List Val) : En := args.map some ++ List.replicate (n - args.length) none
/-- the arguments at the end: a pinned slot's as it stands, another one's as it was -/
def finA (pn : List Nat) (env : En) : Nat → List Val → Option (List Val)
  | _, [] => some []
  | j, a :: as => match (if j ∈ pn then (env[j]?).getD none else some a), finA pn env (j + 1) as with
    | some v, some vs => some (v :: vs)
    | _, _ => none
def KsFn (pn : List Nat) (args : List Val) (Q : Rv → List Val → Prop) (E : Xn → List Val → Prop) : Ks where
  nx := fun env => ∃ as, finA pn env 0 args = some as ∧ Q (.fz .non) as
  rt := fun r env => ∃ as, finA pn env 0 args = some as ∧ Q r as
  bk := fun _ => False
  ct := fun _ => False
  ex := fun x env => ∃ as, finA pn env 0 args = some as ∧ E x as
theorem finA_get {pn : List Nat} {env : En} : ∀ {args as : List Val} {j k : Nat} {a : Val}, finA pn env j args = some as → as[k]? = some a →
    ∃ b, args[k]? = some b ∧ ((j + k ∈ pn ∧ env[j + k]? = some (some a)) ∨ (j + k ∉ pn ∧ a = b))
  | [], _, j, k, a, h, e => by cases h; simp at e
  | b :: args, as, j, k, a, h, e => by
    unfold finA at h
    cases h1 : (if j ∈ pn then (env[j]?).getD none else some b) with
    | none => rw [h1] at h; cases h
    | some v =>
      cases h2 : finA pn env (j + 1) args with
      | none => rw [h1, h2] at h; cases h
      | some vs =>
        rw [h1, h2] at h; cases h
        cases k with
        | zero =>
          simp at e; subst e
          refine ⟨b, rfl, ?_⟩
          by_cases hj : j ∈ pn
          · rw [if_pos hj] at h1
            refine .inl ⟨hj, ?_⟩
            show env[j]? = _
            cases he : env[j]? with
            | none => rw [he] at h1; cases h1
            | some x => rw [he] at h1; simp at h1; rw [h1]
          · rw [if_neg hj] at h1; cases h1
            exact .inr ⟨hj, rfl⟩
        | succ k =>
          obtain ⟨c, h3, h4⟩ := finA_get (j := j + 1) (k := k) h2 (by simpa using e)
          refine ⟨c, by simpa using h3, ?_⟩
          rw [show j + 1 + k = j + (k + 1) by omega] at h4
          exact h4
theorem finA_len {pn : List Nat} {env : En} : ∀ {args as : List Val} {j : Nat}, finA pn env j args = some as → as.length = args.length
  | [], _, j, h => by cases h; rfl
  | b :: args, as, j, h => by
    unfold finA at h
    cases h1 : (if j ∈ pn then (env[j]?).getD none else some b) with
    | none => rw [h1] at h; cases h
    | some v =>
      cases h2 : finA pn env (j + 1) args with
      | none => rw [h1, h2] at h; cases h
      | some vs => rw [h1, h2] at h; cases h; rw [List.length_cons, List.length_cons, finA_len h2]
/-- what a spec must say of its arguments -/
structure ArgsFit (pn : List Nat) (n : Nat) (args : List Val) : Prop where
  len : args.length = n
  ow : ∀ (j : Nat) (o : O), args[j]? = some (.ow o) → j ∈ pn
  ex : ∀ (j : Nat) (a : Addr) (C : Str) (ks : List Str) (vs : List D), args[j]? ≠ some (.ex a C ks vs)
theorem startE_get {n : Nat} {args : List Val} {j : Nat} {a : Val} : (startE n args)[j]? = some (some a) ↔ args[j]? = some a := by
  unfold startE
  by_cases h : j < args.length
  · rw [List.getElem?_append_left (by simpa using h), List.getElem?_map]
    cases args[j]? <;> simp
  · rw [List.getElem?_append_right (by simpa using h), List.getElem?_replicate, List.getElem?_eq_none (by omega)]
    split <;> simp
theorem start_get {N : List Str} {vs : List V} {j : Nat} {v : V} : (start N vs)[j]? = some (some v) ↔ vs[j]? = some v := by
  unfold L2.start
  by_cases h : j < vs.length
  · rw [List.getElem?_append_left (by simpa using h), List.getElem?_map]
    cases vs[j]? <;> simp
  · rw [List.getElem?_append_right (by simpa using h), List.getElem?_replicate, List.getElem?_eq_none (by omega)]
    split <;> simp
section
variable {M : Md} {F H F' H' : Hp} {N : List Str} {vs : List V} {args as : List Val} {pn : List Nat} {n : Nat} {σ' : St} {env' : En}
theorem Rel.begin (R : Rel M (ctN H) F H (sV vs) (eV args)) (hf : ArgsFit pn n args) (hn : n ≤ N.length) : Rel M ⟨pn, start N vs, H, fun _ _ _ => False, H⟩ F H (start N vs) (startE N.length args) := by
  have hl : vs.length = args.length := by
    have := R.len
    unfold eV sV at this
    simpa using this.symm
  refine ⟨R.sub, ?_, fun i d h => ?_, fun i o h => ?_, fun i a C ks ds h => ?_, fun i j o u p h1 h2 h3 h4 => ?_, fun _ _ => rfl, fun b u h => ⟨u, h⟩, fun i o p h hn' _ => ?_, fun i o b h hb => have z := (R.frN i o b (eV_get.mpr (startE_get.mp h)) hb).1; ⟨z, z⟩, fun b u h => ⟨u, h⟩⟩
  · unfold startE L2.start
    simp only [List.length_append, List.length_map, List.length_replicate, hl]
  · obtain ⟨v, h1, h2⟩ := R.fz i d (eV_get.mpr (startE_get.mp h))
    exact ⟨v, start_get.mpr (sV_get.mp h1), h2⟩
  · obtain ⟨p, h1, h2⟩ := R.ow i o (eV_get.mpr (startE_get.mp h))
    exact ⟨p, start_get.mpr (sV_get.mp h1), h2⟩
  · exact absurd (startE_get.mp h) (hf.ex i a C ks ds)
  · exact R.sep i j o u p (eV_get.mpr (startE_get.mp h1)) (eV_get.mpr (startE_get.mp h2)) (h3.imp fun p z => ⟨sV_get.mpr (start_get.mp z.1), z.2⟩) (h4.imp fun p z => ⟨sV_get.mpr (start_get.mp z.1), z.2⟩)
  · exact absurd (hf.ow i o (startE_get.mp h)) hn'
theorem own_begin : ∀ b, Own (start N vs) (startE n args) b ↔ Own (sV vs) (eV args) b := fun b =>
  ⟨fun ⟨i, o, h1, h2⟩ => ⟨i, o, eV_get.mpr (startE_get.mp h1), h2.imp fun p z => ⟨sV_get.mpr (start_get.mp z.1), z.2⟩⟩, fun ⟨i, o, h1, h2⟩ => ⟨i, o, startE_get.mpr (eV_get.mp h1), h2.imp fun p z => ⟨start_get.mpr (sV_get.mp z.1), z.2⟩⟩⟩
/-- at the def's end -/
theorem Rel.finish (R : Rel M (ctN H) F H (sV vs) (eV args)) (hf : ArgsFit pn n args) (R' : Rel M ⟨pn, start N vs, H, fun _ _ _ => False, H⟩ F' H' σ' env') (ev : Evo (Own (start N vs) (startE N.length args)) (Own σ' env') F H F' H') (e : finA pn env' 0 args = some as) :
    Rel M (ctN H) F' H' (sV vs) (eV as) ∧ Evo (Own (sV vs) (eV args)) (Own (sV vs) (eV as)) F H F' H' ∧ ∀ b, Own (sV vs) (eV as) b → Own σ' env' b := by
  have hl : vs.length = args.length := by
    have := R.len
    unfold eV sV at this
    simpa using this.symm
  -- a final argument: pinned, or as it was
  have at_ : ∀ {k : Nat} {a : Val}, as[k]? = some a → (k ∈ pn ∧ env'[k]? = some (some a) ∧ ∃ v, vs[k]? = some v ∧ σ'[k]? = some (some v)) ∨ (k ∉ pn ∧ args[k]? = some a) := fun {k a} h => by
    obtain ⟨b, h1, h2⟩ := finA_get e h
    rw [Nat.zero_add] at h2
    rcases h2 with ⟨h2, h3⟩ | ⟨h2, h3⟩
    · have hk : k < vs.length := by rw [hl]; exact (List.getElem?_eq_some_iff.mp h1).1
      refine .inl ⟨h2, h3, vs[k], List.getElem?_eq_getElem hk, ?_⟩
      rw [R'.pin k h2]
      exact start_get.mpr (List.getElem?_eq_getElem hk)
    · exact .inr ⟨h2, by rw [h3]; exact h1⟩
  have owOf : ∀ {k : Nat} {o : O}, as[k]? = some (.ow o) → env'[k]? = some (some (.ow o)) ∧ ∃ v, vs[k]? = some v ∧ σ'[k]? = some (some v) := fun {k o} h => by
    rcases at_ h with ⟨_, h1, h2⟩ | ⟨h1, h2⟩
    · exact ⟨h1, h2⟩
    · exact absurd (hf.ow k o h2) h1
  have ownSub : ∀ b, Own (sV vs) (eV as) b → Own σ' env' b := fun b ⟨k, o, h1, p, h2, h6⟩ => by
    obtain ⟨h3, v, h4, h5⟩ := owOf (eV_get.mp h1)
    rw [sV_get.mp h2] at h4; cases h4
    exact ⟨k, o, h3, p, h5, h6⟩
  refine ⟨⟨R'.sub, ?_, fun k d h => ?_, fun k o h => ?_, fun k a C ks ds h => ?_, fun i j o u p h1 h2 h3 h4 => ?_, fun _ h => (nomatch h), fun _ _ h => (nomatch h), fun _ _ _ _ _ _ => rfl, fun k o b h hb => ⟨(R'.frN k o b (owOf (eV_get.mp h)).1 hb).1, rfl⟩, R'.oldN⟩, ⟨ev.fs, fun b o h => ?_, fun b o h hn => ?_, ev.ht, fun b h => ?_⟩, ownSub⟩
  · unfold eV sV
    rw [List.length_map, List.length_map, finA_len e, hl]
  · rcases at_ (eV_get.mp h) with ⟨_, h1, v, h2, h3⟩ | ⟨_, h1⟩
    · obtain ⟨v', h4, h5⟩ := R'.fz k d h1
      rw [h3] at h4; cases h4
      exact ⟨v, sV_get.mpr h2, h5⟩
    · obtain ⟨v, h2, h3⟩ := R.fz k d (eV_get.mpr h1)
      exact ⟨v, h2, h3.same ev.fs⟩
  · obtain ⟨h1, v, h2, h3⟩ := owOf (eV_get.mp h)
    obtain ⟨p, h4, h5, h6⟩ := R'.ow k o h1
    rw [h3] at h4; cases h4
    exact ⟨p, sV_get.mpr h2, h5, h6⟩
  · rcases at_ (eV_get.mp h) with ⟨_, h1, v, h2, h3⟩ | ⟨_, h1⟩
    · obtain ⟨_, _, _, z, _⟩ := R'.ex k a C ks ds h1
      exact z.elim
    · exact absurd h1 (hf.ex k a C ks ds)
  · obtain ⟨a1, v, a2, a3⟩ := owOf (eV_get.mp h1)
    obtain ⟨b1, v', b2, b3⟩ := owOf (eV_get.mp h2)
    obtain ⟨p1, h3, h5⟩ := h3
    obtain ⟨p2, h4, h6⟩ := h4
    rw [sV_get.mp h3] at a2; cases a2
    rw [sV_get.mp h4] at b2; cases b2
    exact R'.sep i j o u p a1 b1 ⟨p1, a3, h5⟩ ⟨p2, b3, h6⟩
  · rcases ev.fn b o h with z | z | z
    · exact .inl z
    · exact .inr (.inl z)
    · exact .inr (.inr ((own_begin b).mp z))
  · exact ev.hk b o h fun z => hn ((own_begin b).mp z)
  · rcases ev.aa b (ownSub b h) with z | z
    · exact .inl ((own_begin b).mp z)
    · exact .inr z
end
section
variable {P : Program} {w : World} {K : PySem.W.Frag} {mg : Str → Option Value} {base : Heap}
/-- what a spec must show of a body -/
structure Keeps (S : FSpec) (pn : List Nat) (np nl : Nat) (b : SW) : Prop where
  fit : ∀ args Q E, S args Q E → ArgsFit pn np args
  run : ∀ args Q E, S args Q E → b (KsFn pn args Q E) (startE nl args)
end
end LV
set_option maxHeartbeats 4000000
set_option maxHeartbeats 1000000
namespace LV
open PySem PySem.Spec L2
def spX1 (C : Addr) (f : Str) : Sp := fun vs H Q _ => ∃ (a : Addr) (v : V), vs = [.ref a, v] ∧ H a = some (exo a C none) ∧ ∀ d, H d = none → d ≠ a → Q .non (upd (upd H d (exd d [(f, v)])) a (exo a C (some d)))
/-- the class named Cn, its field f -/
structure XC (P : Program) (w : World) (K : PySem.W.Frag) (mg : Str → Option Value) (base : Heap) (Cn f : Str) : Prop where
  ex : ∃ (C fI : Addr) (fd : FuncData) (p : Str), mg Cn = some (.ref C) ∧ OexC K C ∧ PySem.W.findIn K (.ref C) "__init__" = some (some (.ref fI)) ∧ PySem.W.typeIn K (.ref fI) = some (.type "function") ∧
    FnOk P w K mg base (L2.CX P w) 1 fI fd ["self", p] (spX1 C f) ∧ Binds K fd ["self", p] []
section
variable {X : Cx} {c : Ct} {W : WX} {e : Expr} {es : List Expr} {wl : AW} {pos pos' p : Pos} {Cn f : Str} {body suite : List Stmt} {wb : SW}
/-- raise Cn(e) -/
def wRaise1 (Cn f : Str) (wl : AW) : SW := fun K env => wl env (fun rs e => ∃ d e2, frzL e rs = some ([d], e2) ∧ K.ex ⟨Cn, [f], [d]⟩ e2) K.ex
def noEx : En → Bool
  | [] => true
  | some (.ex _ _ _ _) :: _ => false
  | _ :: r => noEx r
/-- the ends of an except suite: the name goes -/
def KsSu (i : Nat) (K : Ks) : Ks where
  nx := fun e => noEx (e.set i none) = true ∧ K.nx (e.set i none)
  rt := fun r e => noEx (e.set i none) = true ∧ K.rt r (e.set i none)
  bk := fun e => noEx (e.set i none) = true ∧ K.bk (e.set i none)
  ct := fun e => noEx (e.set i none) = true ∧ K.ct (e.set i none)
  ex := fun _ _ => False
/-- what the rule needs of the classes that may fly -/
def Catches (K : PySem.W.Frag) (mg : Str → Option Value) (cv : Value) (catch_ : Str → Option Bool) : Prop := ∀ Cn b C, catch_ Cn = some b → mg Cn = some (.ref C) → PySem.W.exmOne K (.ref C) cv = some b
end
end LV
namespace LV
open PySem PySem.Spec L2
mutual
def D.pd : D → PyData
  | .non => .none
  | .bl b => .bool b
  | .int i => .int i
  | .str x => .str x
  | .tup ds => .tuple (pdL ds)
  | .lst ds => .list (pdL ds)
  | .scr ns => .list (ns.map PyData.int)
  | .dct _ _ => .dict []
  | .ins _ _ _ => .dict []
  | .cls _ => .dict []
  | .ptr _ => .dict []
  | .tpn _ => .dict []
  | .exn _ _ _ => .dict []
def pdL : List D → List PyData
  | [] => []
  | d :: ds => d.pd :: pdL ds
end
mutual
/-- plain data: no dict, no instance -/
def D.plain : D → Bool
  | .tup ds => plainL ds
  | .lst ds => plainL ds
  | .dct _ _ => false
  | .ins _ _ _ => false
  | .cls _ => false
  | .ptr _ => false
  | .tpn _ => false
  | .exn _ _ _ => false
  | _ => true
def plainL : List D → Bool
  | [] => true
  | d :: ds => d.plain && plainL ds
end
theorem dp_ints {M : Md} {H : Hp} : ∀ ns : List Int, DpAll M.K H (ns.map V.int) (ns.map PyData.int)
  | [] => .nil
  | n :: ns => .cons (.int n) (dp_ints ns)
section
variable {M : Md} {F H : Hp}
mutual
theorem Rep.dp (s : Same F H) : ∀ {v : V} {d : D}, Rep M F v d → d.plain = true → Dp M.K H v d.pd
  | _, _, .non, _ => .non
  | _, _, .bl b, _ => .bl b
  | _, _, .int i, _ => .int i
  | _, _, .str x, _ => .str x
  | _, _, .tup h r, p => .tup (Same.sqT s h) (RepL.dp s r p)
  | _, _, .lst h r, p => .lst (.inl (.inl (s _ _ h))) (RepL.dp s r p)
  | _, .scr ns, .scr h, _ => .lst (s.seq h) (dp_ints ns)
  | _, _, .dK h e r, p => nomatch p
  | _, _, .ins g h e r, p => nomatch p
  | _, _, .cls g, p => nomatch p
  | _, _, .ptr, p => nomatch p
  | _, _, .tpn _ _ _, p => nomatch p
  | _, _, .exn _ _ _ _ _, p => nomatch p
  | _, _, .ex0 _ _, p => nomatch p
theorem RepL.dp (s : Same F H) : ∀ {vs : List V} {ds : List D}, RepL M F vs ds → plainL ds = true → DpAll M.K H vs (pdL ds)
  | _, _, .nil, _ => .nil
  | _, _, .cons h r, p => .cons (Rep.dp s h (Bool.and_eq_true_iff.mp p).1) (RepL.dp s r (Bool.and_eq_true_iff.mp p).2)
end
theorem Vw.dp (s : Same F H) {v : V} {d : D} (h : Vw M F H v d) (p : d.plain = true) : Dp M.K H v d.pd := by
  cases d with
  | non => cases h; exact .non
  | bl b => cases h; exact .bl b
  | int i => cases h; exact .int i
  | str x => cases h; exact .str x
  | tup ds => obtain ⟨a, xs, rfl, h1, h2⟩ := h; exact .tup (Same.sqT (Same.refl _) h1 |> fun z => Same.sqT s z) (RepL.dp s h2 p)
  | lst ds => obtain ⟨a, xs, rfl, h1, h2⟩ := h; exact .lst (.inl (.inl h1)) (RepL.dp s h2 p)
  | scr ns => obtain ⟨a, rfl, h1⟩ := h; exact .lst h1 (dp_ints ns)
  | dct _ _ => cases p
  | ins _ _ _ => cases p
  | cls _ => cases p
  | ptr _ => cases p
  | tpn _ => cases p
  | exn _ _ _ => cases p
end
/-- what == asks of its sides -/
def D.okE (d : D) : Bool := d.plain && SeqAt.shaped d.pd
def eqvD (a b : D) : Bool := PyData.eqv a.pd b.pd
def gEq : G2 := fun a b Q => a.okE = true ∧ b.okE = true ∧ Q (.fz (.bl (eqvD a b)))
def gNe : G2 := fun a b Q => a.okE = true ∧ b.okE = true ∧ Q (.fz (.bl (!eqvD a b)))
theorem D.okE_plain {d : D} (h : d.okE = true) : d.plain = true := (Bool.and_eq_true_iff.mp h).1
theorem D.okE_shaped {d : D} (h : d.okE = true) : SeqAt.shaped d.pd = true := (Bool.and_eq_true_iff.mp h).2
section
variable {X : Cx}
theorem VR2.of {f : Value → Value → Sem Value} {g : G2} {r : R2} (ho : OpR X f r) (m : Mono2 g)
    (h : ∀ F da db x y H Qv, Same F H → Vw (mdX X) F H x da → Vw (mdX X) F H y db → g da db (NPost (mdX X) F H Qv) → r x y H Qv) : VR2 X f g :=
  ⟨fun pins s σ H x y v u Q I rx ry ⟨F, da, db, sm, vx, vy, q⟩ => ho pins s σ H x y v u Q I rx ry (h F da db x y H Q sm vx vy q), m⟩
theorem vr_eq (hu : X.A.units + 64 < cLine) : VR2 X (compareOp .Eq) gEq :=
  .of (op_eqD hu) ⟨fun h ⟨a, b, q⟩ => ⟨a, b, h _ q⟩⟩ fun F da db x y H Qv sm vx vy ⟨h1, h2, q⟩ => ⟨_, _, Vw.dp sm vx (D.okE_plain h1), Vw.dp sm vy (D.okE_plain h2), D.okE_shaped h1, D.okE_shaped h2, q.here sm (.bl _)⟩
theorem vr_ne (hu : X.A.units + 64 < cLine) : VR2 X (compareOp .NotEq) gNe :=
  .of (op_neD hu) ⟨fun h ⟨a, b, q⟩ => ⟨a, b, h _ q⟩⟩ fun F da db x y H Qv sm vx vy ⟨h1, h2, q⟩ => ⟨_, _, Vw.dp sm vx (D.okE_plain h1), Vw.dp sm vy (D.okE_plain h2), D.okE_shaped h1, D.okE_shaped h2, q.here sm (.bl _)⟩
def inD (x : D) : D → Option Bool
  | .tup ds => some ((pdL ds).any fun z => PyData.eqv z x.pd)
  | .lst ds => some ((pdL ds).any fun z => PyData.eqv z x.pd)
  | .scr ns => some ((ns.map PyData.int).any fun z => PyData.eqv z x.pd)
  | _ => none
def gIn : G2 := fun a b Q => a.okE = true ∧ b.okE = true ∧ ∃ k, inD a b = some k ∧ Q (.fz (.bl k))
def gNotIn : G2 := fun a b Q => a.okE = true ∧ b.okE = true ∧ ∃ k, inD a b = some k ∧ Q (.fz (.bl (!k)))
def isN : D → Bool
  | .non => true
  | _ => false
def gIsN : G2 := fun a b Q => b = .non ∧ Q (.fz (.bl (isN a)))
def gIsNotN : G2 := fun a b Q => b = .non ∧ Q (.fz (.bl (!isN a)))
theorem isN_vw {M : Md} {F H : Hp} {v : V} {d : D} (h : Vw M F H v d) : decide (v = .non) = isN d := by
  cases d with
  | non => cases h; rfl
  | bl b => cases h; rfl
  | int b => cases h; rfl
  | str b => cases h; rfl
  | tup ds => obtain ⟨a, xs, rfl, _⟩ := h; rfl
  | lst ds => obtain ⟨a, xs, rfl, _⟩ := h; rfl
  | scr ds => obtain ⟨a, rfl, _⟩ := h; rfl
  | dct ks ds => obtain ⟨a, rfl, _⟩ := h; rfl
  | ins C ks ds => obtain ⟨a, rfl, _⟩ := h; rfl
  | cls C => obtain ⟨a, rfl, _⟩ := h; rfl
  | ptr a => cases (show v = .ref a from h); rfl
  | tpn C => obtain ⟨a, o, xs, rfl, _⟩ := h; rfl
  | exn C ks ds => obtain ⟨a, c, rfl, _⟩ := h; rfl
theorem vr_isN : VR2 X (compareOp .Is) gIsN :=
  .of op_isN ⟨fun h ⟨a, q⟩ => ⟨a, h _ q⟩⟩ fun F da db x y H Qv sm vx vy ⟨h1, q⟩ => by
    subst h1; exact ⟨vy, by rw [isN_vw vx]; exact q.here sm (.bl _)⟩
end
end LV
namespace LV
open PySem PySem.Spec L2
def ltI : List Int → List Int → Bool
  | [], [] => false
  | [], _ :: _ => true
  | _ :: _, [] => false
  | x :: xs, y :: ys => if x = y then ltI xs ys else decide (x < y)
def leI : List Int → List Int → Bool
  | [], _ => true
  | _ :: _, [] => false
  | x :: xs, y :: ys => if x = y then leI xs ys else decide (x ≤ y)
theorem lexAt_shift {e r e' r' : Nat → Bool} {z : Bool} : ∀ (k i : Nat), (∀ j, e (i + 1 + j) = e' (i + j)) → (∀ j, r (i + 1 + j) = r' (i + j)) → Ob.lexAt e r z (i + 1) k = Ob.lexAt e' r' z i k
  | 0, i, _, _ => rfl
  | k + 1, i, h1, h2 => by
    rw [Ob.lexAt_succ, Ob.lexAt_succ]
    have a1 := h1 0
    have a2 := h2 0
    simp only [Nat.add_zero] at a1 a2
    rw [a1, a2, lexAt_shift k (i + 1) (fun j => by have := h1 (j + 1); rwa [show i + 1 + (j + 1) = i + 1 + 1 + j by omega, show i + (j + 1) = i + 1 + j by omega] at this)
      (fun j => by have := h2 (j + 1); rwa [show i + 1 + (j + 1) = i + 1 + 1 + j by omega, show i + (j + 1) = i + 1 + j by omega] at this)]
theorem lexAt_lt : ∀ ns ms : List Int, Ob.lexAt (fun j => decide (ns.getD j 0 = ms.getD j 0)) (fun j => decide (ns.getD j 0 < ms.getD j 0)) (decide (ns.length < ms.length)) 0 (min ns.length ms.length) = ltI ns ms
  | [], [] => rfl
  | [], _ :: _ => by simp [Ob.lexAt, ltI]
  | _ :: _, [] => by simp [Ob.lexAt, ltI]
  | n :: ns, m :: ms => by
    rw [List.length_cons, List.length_cons, show min (ns.length + 1) (ms.length + 1) = min ns.length ms.length + 1 by omega, Ob.lexAt_succ, show ltI (n :: ns) (m :: ms) = if n = m then ltI ns ms else decide (n < m) from rfl]
    simp only [List.getD_cons_zero]
    by_cases h : n = m
    · rw [if_pos h, if_pos (decide_eq_true h), show decide (ns.length + 1 < ms.length + 1) = decide (ns.length < ms.length) from by simp, ← lexAt_lt ns ms]
      exact lexAt_shift _ 0 (fun j => by rw [show 0 + 1 + j = (0 + j) + 1 by omega]; simp) (fun j => by rw [show 0 + 1 + j = (0 + j) + 1 by omega]; simp)
    · rw [if_neg h, if_neg (by simpa using h)]
theorem lexAt_le : ∀ ns ms : List Int, Ob.lexAt (fun j => decide (ns.getD j 0 = ms.getD j 0)) (fun j => decide (ns.getD j 0 ≤ ms.getD j 0)) (decide (ns.length ≤ ms.length)) 0 (min ns.length ms.length) = leI ns ms
  | [], [] => rfl
  | [], _ :: _ => by simp [Ob.lexAt, leI]
  | _ :: _, [] => by simp [Ob.lexAt, leI]
  | n :: ns, m :: ms => by
    rw [List.length_cons, List.length_cons, show min (ns.length + 1) (ms.length + 1) = min ns.length ms.length + 1 by omega, Ob.lexAt_succ, show leI (n :: ns) (m :: ms) = if n = m then leI ns ms else decide (n ≤ m) from rfl]
    simp only [List.getD_cons_zero]
    by_cases h : n = m
    · rw [if_pos h, if_pos (decide_eq_true h), show decide (ns.length + 1 ≤ ms.length + 1) = decide (ns.length ≤ ms.length) from by simp, ← lexAt_le ns ms]
      exact lexAt_shift _ 0 (fun j => by rw [show 0 + 1 + j = (0 + j) + 1 by omega]; simp) (fun j => by rw [show 0 + 1 + j = (0 + j) + 1 by omega]; simp)
    · rw [if_neg h, if_neg (by simpa using h)]
section
variable {X : Cx}
/-- one order operator on tuples of ints -/
def rOrd (K : PySem.W.Frag) (f : List Int → List Int → Bool) : R2 := fun x y H Q => ∃ (a b : Addr) (ns ms : List Int), x = .ref a ∧ y = .ref b ∧ SqT K H a (ns.map V.int) ∧ SqT K H b (ms.map V.int) ∧ Q (.bl (f ns ms)) H
theorem op_ordT {op : CmpOp} {r : Int → Int → Bool} {z : Nat → Nat → Bool} {f : List Int → List Int → Bool}
    (rule : ∀ {s : Shared} {l b : Addr} {items items2 : Array Value} {e r : Nat → Bool}, s.heap.IsTuple l items → s.heap.IsTuple b items2 → X.A.units < cLine →
      (∀ j (h1 : j < items.size) (h2 : j < items2.size), SeqAt.EqAt X.A.in1 s items[j] items2[j] (e j)) → (∀ j (h1 : j < items.size) (h2 : j < items2.size), e j = false → Ob.RcOp op X.A.in1 s items[j] items2[j] (r j)) →
      Ob.RcOp op X.A s (.ref l) (.ref b) (Ob.lexAt e r (z items.size items2.size) 0 (min items.size items2.size)))
    (base : ∀ (A : Around) (s : Shared) (a b : Int) (t u : Tok), Ob.RcOp op A s (.int a t) (.int b u) (r a b))
    (hf : ∀ ns ms : List Int, Ob.lexAt (fun j => decide (ns.getD j 0 = ms.getD j 0)) (fun j => r (ns.getD j 0) (ms.getD j 0)) (z ns.length ms.length) 0 (min ns.length ms.length) = f ns ms)
    (hr : ∀ (a b : Value) (s : Shared) (Q E : Value → Shared → Prop), wpAny (model X.prog X.w) X.A (richCompare op a b) Q E s → wpAny (model X.prog X.w) X.A (compareOp op a b) Q E s)
    (hu : X.A.units < cLine) : OpR X (compareOp op) (rOrd X.K f) := by
  intro pins s σ H x y v u Q I rx ry h
  obtain ⟨a, b, ns, ms, rfl, rfl, ha, hb, q⟩ := h
  cases rx
  cases ry
  obtain ⟨its, r1, p1, _⟩ := I.tuple ha
  obtain ⟨its2, r2, p2, _⟩ := I.tuple hb
  have i1 : PyProof.Rows.IntsAre its ns := Vals.ints r1
  have i2 : PyProof.Rows.IntsAre its2 ms := Vals.ints r2
  have e1 : its.toArray.size = ns.length := by rw [List.size_toArray]; exact i1.length
  have e2 : its2.toArray.size = ms.length := by rw [List.size_toArray]; exact i2.length
  have at1 : ∀ j (h1 : j < its.toArray.size), ∃ t, its.toArray[j] = .int (ns.getD j 0) t := fun j h1 => PyProof.Rows.IntsAre.int_at i1 _ _ (by simp at h1; simp [h1])
  have at2 : ∀ j (h1 : j < its2.toArray.size), ∃ t, its2.toArray[j] = .int (ms.getD j 0) t := fun j h1 => PyProof.Rows.IntsAre.int_at i2 _ _ (by simp at h1; simp [h1])
  have R := rule (s := s) (e := fun j => decide (ns.getD j 0 = ms.getD j 0)) (r := fun j => r (ns.getD j 0) (ms.getD j 0)) p1 p2 hu (fun j h1 h2 => by
    obtain ⟨t, et⟩ := at1 j h1
    obtain ⟨t', et'⟩ := at2 j h2
    rw [et, et']
    have z : (ns.getD j 0 == ms.getD j 0) = decide (ns.getD j 0 = ms.getD j 0) := by
      by_cases q : ns.getD j 0 = ms.getD j 0
      · rw [decide_eq_true q]; exact beq_iff_eq.mpr q
      · rw [decide_eq_false q]; exact beq_eq_false_iff_ne.mpr q
    rw [← z]
    exact SeqAt.EqAt.int_int _ _ _ _) (fun j h1 h2 _ => by
    obtain ⟨t, et⟩ := at1 j h1
    obtain ⟨t', et'⟩ := at2 j h2
    rw [et, et']
    exact base _ _ _ _ _ _)
  rw [e1, e2, hf] at R
  exact hr _ _ _ _ _ (R X.prog X.w X.xe (EP X pins σ Q) ⟨.bl _, H, I, rfl, q⟩)
theorem op_ltT' (hu : X.A.units < cLine) : OpR X (compareOp .Lt) (rOrd X.K ltI) :=
  op_ordT (z := fun a b => decide (a < b)) (fun h1 h2 h3 h4 h5 => Ob.RcOp.tuples_lt h1 h2 h3 h4 h5) (fun _ _ => Ob.RcOp.lt_int) lexAt_lt (fun _ _ _ _ _ h => h) hu
theorem lexAt_gt (ns ms : List Int) : Ob.lexAt (fun j => decide (ns.getD j 0 = ms.getD j 0)) (fun j => decide (ms.getD j 0 < ns.getD j 0)) (decide (ns.length > ms.length)) 0 (min ns.length ms.length) = ltI ms ns := by
  rw [← lexAt_lt ms ns, Nat.min_comm]
  congr 1
  funext j
  exact decide_eq_decide.mpr eq_comm
theorem lexAt_ge (ns ms : List Int) : Ob.lexAt (fun j => decide (ns.getD j 0 = ms.getD j 0)) (fun j => decide (ms.getD j 0 ≤ ns.getD j 0)) (decide (ns.length ≥ ms.length)) 0 (min ns.length ms.length) = leI ms ns := by
  rw [← lexAt_le ms ns, Nat.min_comm]
  congr 1
  funext j
  exact decide_eq_decide.mpr eq_comm
theorem op_gtT' (hu : X.A.units < cLine) : OpR X (compareOp .Gt) (rOrd X.K fun a b => ltI b a) :=
  op_ordT (z := fun a b => decide (a > b)) (fun h1 h2 h3 h4 h5 => Ob.RcOp.tuples_gt h1 h2 h3 h4 h5) (fun _ _ => Ob.RcOp.gt_int) lexAt_gt (fun _ _ _ _ _ h => h) hu
theorem op_geT' (hu : X.A.units < cLine) : OpR X (compareOp .GtE) (rOrd X.K fun a b => leI b a) :=
  op_ordT (z := fun a b => decide (a ≥ b)) (fun h1 h2 h3 h4 h5 => Ob.RcOp.tuples_ge h1 h2 h3 h4 h5) (fun _ _ => Ob.RcOp.ge_int) lexAt_ge (fun _ _ _ _ _ h => h) hu
/-- an order operator: ints by p, tuples of ints by f -/
def gOrd (p : Int → Int → Bool) (f : List Int → List Int → Bool) : G2 := fun a b Q =>
  (∃ i j, a = .int i ∧ b = .int j ∧ Q (.fz (.bl (p i j)))) ∨ (∃ ns ms, a = .tup (ns.map D.int) ∧ b = .tup (ms.map D.int) ∧ Q (.fz (.bl (f ns ms))))
theorem Vw.tupI {M : Md} {F H : Hp} {v : V} {ns : List Int} (sm : Same F H) (h : Vw M F H v (.tup (ns.map D.int))) : ∃ a, v = .ref a ∧ SqT M.K H a (ns.map V.int) := by
  obtain ⟨a, xs, rfl, h1, h2⟩ := h
  rw [RepL.ints h2] at h1
  exact ⟨a, rfl, Same.sqT sm h1⟩
theorem Mono2.ord {p : Int → Int → Bool} {f : List Int → List Int → Bool} : Mono2 (gOrd p f) :=
  ⟨fun h q => q.elim (fun ⟨i, j, a, b, q⟩ => .inl ⟨i, j, a, b, h _ q⟩) (fun ⟨i, j, a, b, q⟩ => .inr ⟨i, j, a, b, h _ q⟩)⟩
theorem orR {f : Value → Value → Sem Value} {r r' : R2} (h : OpR X f r) (h' : OpR X f r') : OpR X f (fun x y H Q => r x y H Q ∨ r' x y H Q) := by
  intro pins s σ H x y v u Q I rx ry q
  rcases q with q | q
  · exact h pins s σ H x y v u Q I rx ry q
  · exact h' pins s σ H x y v u Q I rx ry q
theorem vr_ord {op : CmpOp} {p : Int → Int → Bool} {f : List Int → List Int → Bool} (h1 : OpR X (compareOp op) (rI0 fun i j => .bl (p i j))) (h2 : OpR X (compareOp op) (rOrd X.K f)) : VR2 X (compareOp op) (gOrd p f) :=
  .of (orR h1 h2) .ord fun F da db x y H Qv sm vx vy q => by
    rcases q with ⟨i, j, rfl, rfl, q⟩ | ⟨ns, ms, rfl, rfl, q⟩
    · exact .inl ⟨i, j, vx, vy, q.here sm (.bl _)⟩
    · obtain ⟨a, rfl, ha⟩ := Vw.tupI sm vx
      obtain ⟨b, rfl, hb⟩ := Vw.tupI sm vy
      exact .inr ⟨a, b, ns, ms, rfl, rfl, ha, hb, q.here sm (.bl _)⟩
def gLt : G2 := gOrd (fun i j => decide (i < j)) ltI
def gLe : G2 := gOrd (fun i j => decide (i ≤ j)) leI
def gGt : G2 := gOrd (fun i j => decide (j < i)) (fun a b => ltI b a)
def gGe : G2 := gOrd (fun i j => decide (j ≤ i)) (fun a b => leI b a)
theorem vr_lt (hu : X.A.units < cLine) : VR2 X (compareOp .Lt) gLt := vr_ord op_lt (op_ltT' hu)
theorem vr_gt (hu : X.A.units < cLine) : VR2 X (compareOp .Gt) gGt := vr_ord op_gt (op_gtT' hu)
theorem vr_ge (hu : X.A.units < cLine) : VR2 X (compareOp .GtE) gGe := vr_ord op_ge (op_geT' hu)
def gAdd : G2 := fun a b Q => match a, b with
  | .int i, .int j => Q (.fz (.int (i + j)))
  | .str x, .str y => x.length + y.length ≤ sizeLine ∧ Q (.fz (.str (x ++ y)))
  | .tup xs, .tup ys => xs.length + ys.length ≤ sizeLine ∧ Q (.fz (.tup (xs ++ ys)))
  | .lst xs, .lst ys => xs.length + ys.length ≤ sizeLine ∧ Q (.ow (.lst (xs ++ ys)))
  | _, _ => False
theorem Mono2.add : Mono2 gAdd := ⟨fun {a b Q Q'} h q => by
  unfold gAdd at q ⊢
  split at q <;> first | exact h _ q | exact ⟨q.1, h _ q.2⟩ | exact q⟩
theorem vr_add : VR2 X (binaryOp .Add) gAdd :=
  .of (orR (orR op_add op_add_str) (orR op_catA op_cat)) .add fun F da db x y H Qv sm vx vy q => by
    unfold gAdd at q
    split at q
    · cases vx; cases vy; exact .inl (.inl ⟨_, _, rfl, rfl, q.here sm (.int _)⟩)
    · cases vx; cases vy; exact .inl (.inr ⟨_, _, rfl, rfl, q.1, q.2.here sm (.str _)⟩)
    · obtain ⟨a, xs, rfl, h1, h2⟩ := vx
      obtain ⟨b, ys, rfl, h3, h4⟩ := vy
      refine .inr (.inl ⟨a, b, xs, ys, rfl, rfl, Same.sqT sm h1, Same.sqT sm h3, by rw [h2.length, h4.length]; exact q.1, fun e => ?_, fun _ e => ?_, fun _ _ p hp => q.2.newT sm (h2.append h4) hp⟩)
      · subst e; cases h2; exact q.2.here sm (.tup h3 h4)
      · subst e; cases h4; rw [List.append_nil] at q; exact q.2.here sm (.tup h1 h2)
    · obtain ⟨a, xs, rfl, h1, h2⟩ := vx
      obtain ⟨b, ys, rfl, h3, h4⟩ := vy
      exact .inr (.inr ⟨a, b, xs, ys, rfl, rfl, h1, h3, by rw [h2.length, h4.length]; exact q.1, fun p hp => q.2.newL sm (h2.append h4) hp⟩)
    · exact q.elim
def gInt (C : Int → Int → Prop) (g : Int → Int → Int) : G2 := fun a b Q => ∃ i j, a = .int i ∧ b = .int j ∧ C i j ∧ Q (.fz (.int (g i j)))
theorem Mono2.int {C : Int → Int → Prop} {g : Int → Int → Int} : Mono2 (gInt C g) := ⟨fun h ⟨i, j, a, b, c, q⟩ => ⟨i, j, a, b, c, h _ q⟩⟩
theorem vr_int {f : Value → Value → Sem Value} {C : Int → Int → Prop} {g : Int → Int → Int} (h : OpR X f (rI C fun i j => .int (g i j))) : VR2 X f (gInt C g) :=
  .of h .int fun F da db x y H Qv sm vx vy ⟨i, j, e1, e2, hc, q⟩ => by subst e1 e2; exact ⟨i, j, vx, vy, hc, q.here sm (.int _)⟩
def gSub : G2 := gInt (fun _ _ => True) (· - ·)
def gMod : G2 := gInt (fun _ j => j ≠ 0) Int.fmod
def gPow : G2 := gInt CPow fun i j => i ^ j.toNat
def CDvA (i j : Int) : Prop := j ≠ 0 ∧ Builtin.divisionGoesByPylong i j = false
def gDiv : G2 := gInt CDvA Int.fdiv
theorem vr_sub : VR2 X (binaryOp .Sub) gSub := vr_int (opI fun _ _ _ _ _ _ _ _ q => PyProof.Rows.sub_int q)
theorem vr_mod : VR2 X (binaryOp .Mod) gMod := vr_int op_modN
theorem vr_pow : VR2 X (binaryOp .Pow) gPow := vr_int op_pow
theorem vr_div : VR2 X (binaryOp .FloorDiv) gDiv := vr_int (opI fun _ _ _ _ _ _ _ hc q => PyProof.Rows.floordiv_int hc.1 q (.inl hc.2))
def gMul : G2 := fun a b Q => match a, b with
  | .int i, .int j => CMulX i j ∧ Q (.fz (.int (i * j)))
  | .tup xs, .int k => xs ≠ [] ∧ 2 ≤ k ∧ k ≤ 1000 ∧ xs.length ≤ 1000 ∧ Q (.fz (.tup (List.replicate k.toNat xs).flatten))
  | .lst xs, .int k => -(2 ^ 63) ≤ k ∧ k < 2 ^ 63 ∧ xs.length * k.toNat ≤ sizeLine ∧ Q (.ow (.lst (List.replicate k.toNat xs).flatten))
  | _, _ => False
theorem Mono2.mul : Mono2 gMul := ⟨fun {a b Q Q'} h q => by
  unfold gMul at q ⊢
  split at q
  · exact ⟨q.1, h _ q.2⟩
  · exact ⟨q.1, q.2.1, q.2.2.1, q.2.2.2.1, h _ q.2.2.2.2⟩
  · exact ⟨q.1, q.2.1, q.2.2.1, h _ q.2.2.2⟩
  · exact q⟩
theorem RepL.repl {M : Md} {F : Hp} {xs : List V} {ds : List D} (r : RepL M F xs ds) : ∀ n : Nat, RepL M F (List.replicate n xs).flatten (List.replicate n ds).flatten
  | 0 => .nil
  | n + 1 => by
    rw [List.replicate_succ, List.replicate_succ, List.flatten_cons, List.flatten_cons]
    exact r.append (RepL.repl r n)
theorem vr_mul : VR2 X (binaryOp .Mult) gMul :=
  .of (orR op_mulX (orR op_repT op_rep)) .mul fun F da db x y H Qv sm vx vy q => by
    unfold gMul at q
    split at q
    · cases vx; cases vy; exact .inl ⟨_, _, rfl, rfl, q.1, q.2.here sm (.int _)⟩
    · obtain ⟨a, xs, rfl, h1, h2⟩ := vx
      cases vy
      obtain ⟨n1, n2, n3, n4, q⟩ := q
      exact .inr (.inl ⟨a, _, xs, rfl, rfl, Same.sqT sm h1, fun z => n1 (by subst z; cases h2; rfl), n2, n3, by rw [h2.length]; exact n4, fun p hp => q.newT sm (h2.repl _) hp⟩)
    · obtain ⟨a, xs, rfl, h1, h2⟩ := vx
      cases vy
      obtain ⟨n1, n2, n3, q⟩ := q
      exact .inr (.inr ⟨a, _, xs, rfl, rfl, h1, n1, n2, by rw [h2.length]; exact n3, fun p hp => q.newL sm (h2.repl _) hp⟩)
    · exact q.elim
theorem RepL.atI {M : Md} {F : Hp} {xs : List V} {ds : List D} (r : RepL M F xs ds) {i : Int} {d : D} (h : atI ds i = some d) : ∃ v, L2.atI xs i = some v ∧ Rep M F v d := by
  unfold L2.atI at h ⊢
  rw [r.length]
  cases e : ixN ds.length i with
  | none => rw [e] at h; cases h
  | some j => rw [e] at h; exact r.get' h
def gIx : G2 := fun a b Q => match a, b with
  | .tup ds, .int i => ∃ d, atI ds i = some d ∧ Q (.fz d)
  | .lst ds, .int i => ∃ d, atI ds i = some d ∧ Q (.fz d)
  | .scr ns, .int i => ∃ n, atI ns i = some n ∧ Q (.fz (.int n))
  | .str z, .int i => z.length ≤ sizeLine ∧ ∃ c, atI z.cps.toList i = some c ∧ Q (.fz (.str ⟨#[c]⟩))
  | _, _ => False
theorem Mono2.ix : Mono2 gIx := ⟨fun {a b Q Q'} h q => by
  unfold gIx at q ⊢
  split at q
  · obtain ⟨d, e, q⟩ := q; exact ⟨d, e, h _ q⟩
  · obtain ⟨d, e, q⟩ := q; exact ⟨d, e, h _ q⟩
  · obtain ⟨d, e, q⟩ := q; exact ⟨d, e, h _ q⟩
  · obtain ⟨l, d, e, q⟩ := q; exact ⟨l, d, e, h _ q⟩
  · exact q⟩
theorem atI_map {ns : List Int} {i n : Int} (h : atI ns i = some n) : atI (ns.map V.int) i = some (.int n) := by
  unfold L2.atI at h ⊢
  rw [List.length_map]
  cases e : ixN ns.length i with
  | none => rw [e] at h; cases h
  | some j => rw [e] at h; show (ns.map V.int)[j]? = _; rw [List.getElem?_map]; rw [show ns[j]? = some n from h]; rfl
theorem vi_ix : VIx X gIx where
  ok := by
    intro value slice pins s σ H x y v u Q I rx ry q hs
    refine ix_seq value slice pins s σ H x y v u Q I rx ry ?_ hs
    obtain ⟨F, da, db, sm, vx, vy, q⟩ := q
    unfold gIx at q
    split at q
    · obtain ⟨a, xs, rfl, h1, h2⟩ := vx
      cases vy
      obtain ⟨d, e, q⟩ := q
      obtain ⟨w, e1, rw'⟩ := h2.atI e
      exact .inr (.inl ⟨a, xs, _, w, rfl, rfl, Same.sqT sm h1, e1, q.here sm rw'⟩)
    · obtain ⟨a, xs, rfl, h1, h2⟩ := vx
      cases vy
      obtain ⟨d, e, q⟩ := q
      obtain ⟨w, e1, rw'⟩ := h2.atI e
      exact .inl ⟨a, xs, _, w, rfl, rfl, .inl (.inl h1), e1, q.here sm rw'⟩
    · obtain ⟨a, rfl, h1⟩ := vx
      cases vy
      obtain ⟨d, e, q⟩ := q
      exact .inl ⟨a, _, _, _, rfl, rfl, h1, atI_map e, q.here sm (.int _)⟩
    · cases vx; cases vy
      obtain ⟨l, ch, e, q⟩ := q
      exact .inr (.inr ⟨_, _, _, rfl, rfl, l, e, q.here sm (.str _)⟩)
    · exact q.elim
  mo := .ix
theorem VRL.of {f : Value} {g : GL} {r : List V → Hp → VK → Prop} (ho : CallR X f r) (m : MonoL g)
    (h : ∀ F ds vs H Qv, Same F H → VwL (mdX X) F H vs ds → g ds (NPost (mdX X) F H Qv) → r vs H Qv) : VRL X f g :=
  ⟨fun pins s σ H xs us Q I r ⟨F, ds, sm, vl, q⟩ => ho pins s σ H xs us Q I r (h F ds xs H Q sm vl q), m⟩
theorem VwL.one {M : Md} {F H : Hp} {vs : List V} {d : D} (h : VwL M F H vs [d]) : ∃ v, vs = [v] ∧ Vw M F H v d := by
  match vs, h with
  | [v], ⟨h, _⟩ => exact ⟨v, rfl, h⟩
  | _ :: _ :: _, ⟨_, h⟩ => exact h.elim
theorem VwL.two {M : Md} {F H : Hp} {vs : List V} {d d' : D} (h : VwL M F H vs [d, d']) : ∃ v v', vs = [v, v'] ∧ Vw M F H v d ∧ Vw M F H v' d' := by
  match vs, h with
  | [_], ⟨_, h⟩ => exact h.elim
  | [v, v'], ⟨h, h', _⟩ => exact ⟨v, v', rfl, h, h'⟩
  | _ :: _ :: _ :: _, ⟨_, _, h⟩ => exact h.elim
def gLen : GL := fun ds Q => match ds with
  | [.tup ds] => Q (.fz (.int ds.length))
  | [.lst ds] => Q (.fz (.int ds.length))
  | [.scr ns] => Q (.fz (.int ns.length))
  | [.str z] => z.length ≤ sizeLine ∧ Q (.fz (.int z.length))
  | _ => False
theorem vl_len : VRL X (.builtin "len") gLen :=
  .of call_len ⟨fun {ds Q Q'} h q => by
    unfold gLen at q ⊢
    split at q <;> first | exact h _ q | exact ⟨q.1, h _ q.2⟩ | exact q⟩ fun F ds vs H Qv sm vl q => by
    unfold gLen at q
    split at q
    · obtain ⟨v, rfl, a, xs, rfl, h1, h2⟩ := vl.one
      exact ⟨_, _, rfl, .inr ⟨xs, Same.sqT sm h1, h2.length.symm⟩, q.here sm (.int _)⟩
    · obtain ⟨v, rfl, a, xs, rfl, h1, h2⟩ := vl.one
      exact ⟨_, _, rfl, .inl ⟨xs, .inl (.inl h1), h2.length.symm⟩, q.here sm (.int _)⟩
    · obtain ⟨v, rfl, a, rfl, h1⟩ := vl.one
      exact ⟨_, _, rfl, .inl ⟨_, h1, by rw [List.length_map]⟩, q.here sm (.int _)⟩
    · obtain ⟨v, rfl, hv⟩ := vl.one
      cases hv
      exact ⟨_, _, rfl, ⟨q.1, rfl⟩, q.2.here sm (.int _)⟩
    · exact q.elim
def gAbs : GL := fun ds Q => ∃ i, ds = [.int i] ∧ Q (.fz (.int (if i < 0 then -i else i)))
theorem vl_abs : VRL X (.builtin "abs") gAbs :=
  .of call_abs ⟨fun h ⟨i, e, q⟩ => ⟨i, e, h _ q⟩⟩ fun F ds vs H Qv sm vl ⟨i, e, q⟩ => by
    subst e
    obtain ⟨v, rfl, hv⟩ := vl.one
    cases hv
    exact ⟨i, rfl, q.here sm (.int _)⟩
def gMax2 : GL := fun ds Q => ∃ i j, ds = [.int i, .int j] ∧ Q (.fz (.int (if j > i then j else i)))
def gMin2 : GL := fun ds Q => ∃ i j, ds = [.int i, .int j] ∧ Q (.fz (.int (if j < i then j else i)))
theorem vl_min2 (hc : X.calm = true) : VRL X (.builtin "min") gMin2 :=
  .of (call_min2 hc) ⟨fun h ⟨i, j, e, q⟩ => ⟨i, j, e, h _ q⟩⟩ fun F ds vs H Qv sm vl ⟨i, j, e, q⟩ => by
    subst e
    obtain ⟨v, v', rfl, hv, hv'⟩ := vl.two
    cases hv; cases hv'
    exact ⟨i, j, rfl, q.here sm (.int _)⟩
def gInt1 : GL := fun ds Q => (∃ i, ds = [.int i] ∧ Q (.fz (.int i))) ∨ ∃ k : Bool, ds = [.bl k] ∧ Q (.fz (.int (if k then 1 else 0)))
theorem vl_int : VRL X (.type "int") gInt1 :=
  .of call_int1 ⟨fun h q => q.elim (fun ⟨i, e, q⟩ => .inl ⟨i, e, h _ q⟩) (fun ⟨i, e, q⟩ => .inr ⟨i, e, h _ q⟩)⟩ fun F ds vs H Qv sm vl q => by
    rcases q with ⟨i, e, q⟩ | ⟨k, e, q⟩
    · subst e
      obtain ⟨v, rfl, hv⟩ := vl.one
      cases hv
      exact .inl ⟨i, rfl, q.here sm (.int _)⟩
    · subst e
      obtain ⟨v, rfl, hv⟩ := vl.one
      cases hv
      exact .inr ⟨k, rfl, q.here sm (.int _)⟩
def gList : GL := fun ds Q => match ds with
  | [.tup ds] => Q (.ow (.lst ds))
  | [.lst ds] => Q (.ow (.lst ds))
  | [.scr ns] => Q (.ow (.lst (ns.map D.int)))
  | _ => False
def gTuple : GL := fun ds Q => match ds with
  | [.tup ds] => Q (.fz (.tup ds))
  | [.lst ds] => Q (.fz (.tup ds))
  | [.scr ns] => Q (.fz (.tup (ns.map D.int)))
  | _ => False
theorem vl_tuple : VRL X (.type "tuple") gTuple :=
  .of call_tuple_of ⟨fun {ds Q Q'} h q => by
    unfold gTuple at q ⊢
    split at q <;> first | exact h _ q | exact q⟩ fun F ds vs H Qv sm vl q => by
    unfold gTuple at q
    split at q
    · obtain ⟨v, rfl, a, xs, rfl, h1, h2⟩ := vl.one
      exact ⟨a, xs, rfl, .inr ⟨Same.sqT sm h1, q.here sm (.tup h1 h2)⟩⟩
    · obtain ⟨v, rfl, a, xs, rfl, h1, h2⟩ := vl.one
      exact ⟨a, xs, rfl, .inl ⟨.inl (.inl h1), fun l hl => q.newT sm h2 hl⟩⟩
    · obtain ⟨v, rfl, a, rfl, h1⟩ := vl.one
      exact ⟨a, _, rfl, .inl ⟨h1, fun l hl => q.newT sm (RepL.of_ints _) hl⟩⟩
    · exact q.elim
def gAll : GL := fun ds Q => ∃ bs : List Bool, ds = [.lst (bs.map D.bl)] ∧ Q (.fz (.bl (bs.all id)))
theorem RepL.bls {M : Md} {F : Hp} : ∀ {vs : List V} {bs : List Bool}, RepL M F vs (bs.map D.bl) → vs = bs.map V.bl
  | _, [], .nil => rfl
  | _, n :: ns, .cons h r => by
    cases h
    rw [RepL.bls (bs := ns) r]; rfl
theorem vl_all (hc : X.calm = true) : VRL X (.builtin "all") gAll :=
  .of (cr_all hc) ⟨fun h ⟨i, e, q⟩ => ⟨i, e, h _ q⟩⟩ fun F ds vs H Qv sm vl ⟨bs, e, q⟩ => by
    subst e
    obtain ⟨v, rfl, a, xs, rfl, h1, h2⟩ := vl.one
    rw [RepL.bls h2] at h1
    exact ⟨a, bs, rfl, .inl (.inl h1), q.here sm (.bl _)⟩
end
end LV
namespace LV
open PySem PySem.Spec L2
structure RoomG (k : Nat) (A : Around) : Prop where
  rm : Room k A
  gd : A.guards = some []
theorem RoomG.mono {j k : Nat} {A : Around} (r : RoomG k A) (h : j ≤ k) : RoomG j A := ⟨r.rm.mono h, r.gd⟩
theorem RoomG.deeper {k : Nat} {A : Around} (r : RoomG (k + 1) A) (env : Env) : RoomG k (A.deeper env) := ⟨r.rm.deeper env, r.gd⟩
structure FnG (P : Program) (w : World) (K : PySem.W.Frag) (mg : Str → Option Value) (base : Heap) (k : Nat) (f : Addr) (fd : FuncData) (ps : List Str) (sp : Sp) : Prop where
  len : ∀ vs H Q E, sp vs H Q E → vs.length = ps.length
  run : ∀ (A : Around) (outer : List Env) (s : Shared) (H : Hp) (args : Args) (us : List Value) (vs : List V) (Q : VK) (E : XK), RoomG k A → Env0 P w K mg base A outer s H → BindsTo s fd args (ps.zip us) → Vals vs us → sp vs H Q E →
    codeAny (model P w) A (.call (.ref f) args) (CR (L2.CX P w) outer P w H s Q E) s
theorem FnG.mono {P : Program} {w : World} {K : PySem.W.Frag} {mg : Str → Option Value} {base : Heap} {j k : Nat} {f : Addr} {fd : FuncData} {ps : List Str} {sp : Sp} (F : FnG P w K mg base j f fd ps sp) (h : j ≤ k) : FnG P w K mg base k f fd ps sp :=
  ⟨F.len, fun A outer s H args us vs Q E hr => F.run A outer s H args us vs Q E (hr.mono h)⟩
theorem FnG.of {P : Program} {w : World} {K : PySem.W.Frag} {mg : Str → Option Value} {base : Heap} {k : Nat} {f : Addr} {fd : FuncData} {ps : List Str} {sp : Sp} (F : FnOk P w K mg base (L2.CX P w) k f fd ps sp) : FnG P w K mg base k f fd ps sp :=
  ⟨F.len, fun A outer s H args us vs Q E hr => F.run A outer s H args us vs Q E hr.rm⟩
section
variable {X : Cx} {k : Nat} {f : Addr} {fd : FuncData} {ps : List Str} {sp : Sp} {E : L2.St → XK} {x : Str} {p pos : Pos} {e : Expr} {es : List Expr} {t : TA}
theorem run_fnG {pins : List (Addr × Obj)} {σ : L2.St} {H : Hp} {s : Shared} {Q : VK} {us : List Value} {vs : List V} (F : FnG X.prog X.w X.K X.mg X.base k f fd ps sp) (hr : RoomG k X.A) (hb : Binds X.K fd ps []) (hx : PassesAt (L2.CX X.prog X.w) X σ (E σ))
    (I : L2.Inv X pins σ H s) (r : Vals vs us) (h : sp vs H Q (E σ)) : wpAny (model X.prog X.w) X.A (call (.ref f) us) (EP X pins σ Q) X.xe s := by
  have b := hb s us I.kIn (by rw [List.append_nil, ← r.length]; exact F.len _ _ _ _ h)
  rw [List.append_nil] at b
  refine wpAny_call (codeAny_mono (F.run X.A X.stack s H ⟨us, []⟩ us vs Q (E σ) hr I.env0 b r h) fun r s' hq => ?_)
  match r, hq with
  | .error e, hq => exact hx pins H s e s' I hq
  | .ok (.ret u), hq => exact I.after hq
  | .ok .next, hq => exact hq.elim
  | .ok .brk, hq => exact hq.elim
  | .ok .cont, hq => exact hq.elim
theorem pe_callG (F : FnG X.prog X.w X.K X.mg X.base k f fd ps sp) (hr : RoomG k X.A) (hg : Gl X x) (hm : X.mg x = some (.ref f)) (hk : PySem.W.keepIn X.K (.ref f) = true) (hb : Binds X.K fd ps []) (hx : ∀ σ, PassesAt (L2.CX X.prog X.w) X σ (E σ))
    (ha : PA X (e :: es) t) (hdb : (x == ("__debug__" : Str)) = false := by decide) (he : starEach (e :: es) X.env = (false, eval e X.env) :: starEach es X.env := by rfl) (hpl : (backTo pos (starEach es X.env)).any (·.1) = false := by rfl) :
    PE X (.Call (.Name x p) (e :: es) [] pos) (tCallS sp E t) :=
  ⟨fun pins s σ H Q I h => wpAny_Call_Name_kw (ld_glob I hg hm (PySem.W.callWith_K (h₀ := X.base) I.ok.mod.kin hk (thn (ha.run pos pins s σ H _ I h) fun us s1 ⟨vs, H1, I1, r, q⟩ => ⟨I1.kIn, run_fnG F hr hb (hx σ) I1 r q⟩) he hpl) hdb)⟩
end
section
variable {X : Cx} {c : Ct} {W : WX} {e : Expr} {es : List Expr} {wl : AW} {pos p : Pos} {x : Str} {k : Nat} {f : Addr} {fd : FuncData} {ps : List Str} {S : FSpec}
theorem se_callG (F : FnG X.prog X.w X.K X.mg X.base k f fd ps (toSp (mdX X) S)) (mS : MonoF S) (tk : Takes X W) (hr : RoomG k X.A) (hg : Gl X x) (hm : X.mg x = some (.ref f)) (hk : PySem.W.keepIn X.K (.ref f) = true) (hb : Binds X.K fd ps [])
    (ha : SA X c W (e :: es) wl) (hdb : (x == ("__debug__" : Str)) = false := by decide) (he : starEach (e :: es) X.env = (false, eval e X.env) :: starEach es X.env := by rfl) (hpl : (backTo pos (starEach es X.env)).any (·.1) = false := by rfl) :
    SE X c W (.Call (.Name x p) (e :: es) [] pos) (wCall S wl) :=
  ⟨PE.imp (pe_callG F hr hg hm hk hb (passAt tk) ha.pa hdb he hpl) fun σ H Q h => call_core mS ha.mo h, .call mS ha.mo⟩
end
section
variable {P : Program} {w : World} {K : PySem.W.Frag} {mg : Str → Option Value} {base : Heap}
/-- a def of the text, with its body's reading -/
theorem fn_ofG {k : Nat} {f : Addr} {name qual : Str} {params : Arguments} {body : List Stmt} {scope : Scope} {dV kV doc pm cdv ct oc : Value} {an od : Option Addr} {osl : Array (Option Value)} {N ps : List Str} {sp : Sp}
    (lk : K.lookup f = some ⟨oc, od, .func (PySem.W.fnOf name qual params body scope dV kV doc pm an cdv ct), osl⟩) (hcd : PySem.W.codeIn K cdv qual = true) (S : FnScope N ps scope) (len : ∀ vs H Q E, sp vs H Q E → vs.length = ps.length)
    (hbody : ∀ (A : Around) (outer : List Env) (s : Shared) (H : Hp) (vs : List V) (Q : VK) (E : XK), RoomG k (A.deeper (PyProof.Rows.envOfC qual scope s.heap.objs.size f cdv)) → sp vs H Q E →
      ∃ t, PSs (cxOf (L2.CX P w) P w K mg base N qual scope f cdv A outer s H E) body t ∧ t { nx := fun _ H' => Q .non H', rt := Q } (start N vs) H) :
    FnG P w K mg base (k + 1) f (PySem.W.fnOf name qual params body scope dV kV doc pm an cdv ct) ps sp where
  len := len
  run := fun A outer s H args us vs Q E hr e0 hb r hsp => by
    have KX : K.In s.heap := e0.mod.kin.keeps fun b o e => (e0.bs b o e).1
    have lim : s.heap.NoLimit := e0.mod.nolimit.keeps fun b o e => (e0.bs b o e).1
    refine codeAny_call_function hr.rm.depth (KX _ _ lk) rfl S.co S.gen rfl (PySem.W.codeRec_of KX hcd) (hb _ _ _ _ (wpAny_newFunctionEnv_cells S.kind (fun ⟨n, v⟩ hy => ?_) fun env he s1 x => ?_))
    · exact (S.par n (List.of_mem_zip hy).1).elim .inl fun q => .inr ⟨q, PySem.W.cellsFrom_some _ _ _ (.inl q)⟩
    · subst he
      refine ⟨lim.keeps x.toInCall.keep, codeAny_func ?_⟩
      obtain ⟨t, ht, hq⟩ := hbody A outer s H vs Q E (hr.deeper _) hsp
      refine wpAny_mono (ht.run [] s1 (start N vs) H _ (inv_start S hr.rm.hd e0 (len _ _ _ _ hsp) r x) hq) (fun fl s' hs => ?_) fun e s' hs => hs
      match fl, hs with
      | .ret u, ⟨v, σ', H', J, rv, q⟩ => exact ⟨v, H', J.os, J.bare, J.base, J.hok, rv, q⟩
      | .next, ⟨σ', H', J, q⟩ => exact ⟨.non, H', J.os, J.bare, J.base, J.hok, rfl, q⟩
      | .brk, ⟨_, _, _, q⟩ => exact q.elim
      | .cont, ⟨_, _, _, q⟩ => exact q.elim
theorem fn_lvG {x qual : Str} {st : Stmt} {f : Addr} {fd : FuncData} {N ps : List Str} {k : Nat} {S : FSpec} {b : SW} (pn : List Nat) (Fn : Fun K x qual st f fd) (Sc : FnScope N ps (defScope st)) (kp : Keeps S pn ps.length N.length b)
    (hbody : ∀ (cdv : Value) (A : Around) (outer : List Env) (s : Shared) (H : Hp) (E : XK), RoomG k (A.deeper (PyProof.Rows.envOfC qual (defScope st) s.heap.objs.size f cdv)) →
      ∀ c : Ct, c.pn = pn → SSs (cxOf (L2.CX P w) P w K mg base N qual (defScope st) f cdv A outer s H E) c (fun cls d _ H => E cls d H) (defBody st) b) :
    FnG P w K mg base (k + 1) f fd ps (toSp ⟨K, mg, w⟩ S) := by
  have hpl : ps.length ≤ N.length := by have := congrArg List.length Sc.pre; rw [List.length_take] at this; omega
  have lenOf : ∀ {F H : Hp} {vs : List V} {args : List Val}, Rel ⟨K, mg, w⟩ (ctN H) F H (sV vs) (eV args) → vs.length = args.length := fun {F H vs args} R => by
    have := R.len
    unfold eV sV at this
    simpa using this.symm
  obtain ⟨oc, od, kV, doc, pm, an, cdv, ct, osl, rfl, lk, hcd⟩ := Fn.ex
  refine fn_ofG lk hcd Sc (fun vs H Q E ⟨F, args, R, h⟩ => by rw [lenOf R, (kp.fit _ _ _ h).len]) fun A outer s H vs Q E hr ⟨F, args, R, h⟩ => ?_
  have hf := kp.fit _ _ _ h
  have B := hbody cdv A outer s H E hr ⟨pn, start N vs, H, fun _ _ _ => False, H⟩ rfl
  refine ⟨_, B.ps, F, startE N.length args, R.begin hf hpl, B.mo.mo (K := KsFn pn args _ _) ⟨fun e q => ?_, fun r e q => ?_, fun _ z => z.elim, fun _ z => z.elim, fun xx e q => ?_⟩ (kp.run _ _ _ h)⟩
  · intro σ' F' H' R' ev
    obtain ⟨as, ea, q⟩ := q
    obtain ⟨R2, ev2, _⟩ := R.finish hf R' ev ea
    exact q .non F' H' R2 ev2 .non
  · intro v σ' F' H' R' ev ok
    obtain ⟨as, ea, q⟩ := q
    obtain ⟨R2, ev2, sub⟩ := R.finish hf R' ev ea
    refine q v F' H' R2 ev2 ?_
    cases r with
    | fz d => exact ok
    | sl i => exact ok.elim
    | ow o =>
      obtain ⟨p, a1, a2, a3, a4, a5⟩ := ok
      exact ⟨p, a1, a2, a3, fun b hb z => a4 b hb (sub b z), fun b hb => hb.elim (fun e => e ▸ a5.1) (a5.2 b)⟩
  · intro cl d σ' F' H' R' ev xo
    obtain ⟨as, ea, q⟩ := q
    obtain ⟨R2, ev2, _⟩ := R.finish hf R' ev ea
    exact q cl d F' H' R2 ev2 xo
end
/-- the law keeps: at every script it answers True -/
def SLaw (n : Nat) : FSpec := fun args Q _ => ∃ ns : List Int, args = [.fz (.scr ns)] ∧ ns.length ≤ n ∧ (∀ z ∈ ns, Builtin.Int.intBits z ≤ 1048576) ∧ ∀ as, backOk args as = true → Q (.fz (.bl true)) as
end LV
namespace LV
open PySem PySem.Spec L2
theorem sp_law {M : Md} {H : Hp} {a : Addr} {n : Nat} {ns : List Int} (hn : ns.length ≤ n) (hb : ∀ z ∈ ns, Builtin.Int.intBits z ≤ 1048576) (h : SqL M.K H a (ns.map V.int)) :
    toSp M (SLaw n) [.ref a] H (fun v _ => v = .bl true) fun _ _ _ => False := by
  refine ⟨H, [.fz (.scr ns)], ⟨Same.refl _, rfl, fun i d e => ?_, fun i o e => ?_, fun i _ _ _ _ e => ?_, fun i j o u p e => ?_, fun i hi => (nomatch hi), fun b u e => (nomatch e), fun i o p e => ?_, fun i o b e => ?_, fun b u e => ⟨u, e⟩⟩, ns, rfl, hn, hb, fun as k v F' H' R' ev ok => ?_⟩
  · cases i with
    | zero => cases e; exact ⟨.ref a, rfl, .scr h⟩
    | succ i => simp [eV] at e
  · cases i with
    | zero => cases e
    | succ i => simp [eV] at e
  · cases i with
    | zero => cases e
    | succ i => simp [eV] at e
  · cases i with
    | zero => cases e
    | succ i => simp [eV] at e
  · cases i with
    | zero => cases e
    | succ i => simp [eV] at e
  · cases i with
    | zero => cases e
    | succ i => simp [eV] at e
  · cases (show Rep M F' v (.bl true) from ok); rfl
section
variable {P : Program} {w : World} {K : PySem.W.Frag} {mg mb : Str → Option Value} {k n : Nat} {fa a : Addr} {fd : FuncData} {x : Str} {s₁ : Shared} {vs : List Value} {ns : List Int}
/-- the law is called on a heap in which H is tracked: nothing but the script -/
theorem law_run (KX : K.In s₁.heap) (hns : s₁.heap.Ns mainGlobals mg) (hb : s₁.heap.Ns builtinsNs mb) (hbb : ∀ x : Str, x ≠ "__name__" → mb x = bootBuiltins x) (hlim : s₁.heap.NoLimit) (hg : s₁.gens = #[])
    (ha : s₁.heap.get? a = some { cls := .type "list", data := .seq vs.toArray }) (hr : RoomG k callerA) (hn : ns.length ≤ n) (hz : ∀ z ∈ ns, Builtin.Int.intBits z ≤ 1048576)
    (F : ∀ base : Heap, K.In base → base.Ns mainGlobals mg → FnG P w K mg base k fa fd [x] (toSp ⟨K, mg, w⟩ (SLaw n))) (hbind : ∀ (s : Shared) (u : Value), BindsTo s fd ⟨[u], []⟩ [(x, u)])
    {H : Hp} (hO : Only H) (hS : SqL K H a (ns.map V.int)) (hok : HOk P w H s₁.heap) (hA : ∀ b, H b ≠ none → b = a) (hK : H a ≠ none → K.lookup a = none) :
    codeAny (model P w) callerA (.call (.ref fa) ⟨[.ref a], []⟩) (fun r s' => r = .ok (.ret (.bool true)) ∧ OldK s₁.heap s'.heap ∧ s'.os = s₁.os ∧ PyProof.Rows.AllBare s'.gens) s₁ := by
  have only : ∀ {b : Addr}, (b = a → H b = none) → H b = none := fun {b} h => by
    by_cases e : b = a
    · exact h e
    · cases q : H b with
      | none => rfl
      | some u => exact absurd (hA b (by rw [q]; simp)) e
  have dct : ∀ {b : Addr} {o : Obj} {es : Array DictEntry} {ep : Nat}, s₁.heap.get? b = some o → o.data = .dict es ep → H b = none := fun {b o es ep} e d => only fun z => by
    subst z
    rw [ha] at e; cases e; cases d
  have keepN : ∀ {b : Addr} {m : Str → Option Value}, s₁.heap.Ns b m → (hidT s₁.heap H).Ns b m := fun ⟨o, es, ep, e, d, r⟩ => ⟨o, es, ep, hidT_get e (dct e d), d, r⟩
  have keepK : K.In (hidT s₁.heap H) := fun b o e => hidT_get (KX b o e) (by
    cases q : H b with
    | none => rfl
    | some u =>
      have z := hA b (by rw [q]; simp)
      subst z
      rw [hK (by rw [q]; simp)] at e; cases e)
  have e0 : Env0 P w K mg (hidT s₁.heap H) callerA [] s₁ H :=
    ⟨rfl, ⟨keepK, keepN hns, ⟨mb, keepN hb, hbb⟩, let ⟨mc, h1, h2⟩ := hlim; ⟨mc, keepN h1, h2⟩⟩, fun b o e => of_hidT e, Nat.le_of_eq (hidT_size _ _), trivial, fun b hb => (nomatch hb), hok, .of_eq hg⟩
  refine codeAny_mono ((F _ keepK (keepN hns)).run callerA [] s₁ H ⟨[.ref a], []⟩ [.ref a] [.ref a] _ _ hr e0 (hbind s₁ (.ref a)) (.cons rfl .nil) (sp_law hn hz hS)) fun r s' h => ?_
  match r, h with
  | .error e, ⟨_, _, _, _, _, _, _, _, _, _, _, _, z⟩ => exact z.elim
  | .ok .next, h => exact h.elim
  | .ok .brk, h => exact h.elim
  | .ok .cont, h => exact h.elim
  | .ok (.ret u), ⟨v, H', os, bare, un, hok', r', q⟩ =>
    have q' : v = .bl true := q
    subst q'
    obtain rfl : u = Value.bool true := r'
    refine ⟨rfl, OldK.of_keep fun b o e => ?_, os, bare⟩
    rcases hO b with z | ⟨ob, xs, z⟩
    · exact un.keep b o e z (by intro z; exact nomatch z) (by simp)
    · have z2 := un.frzs b ob _ z
      obtain ⟨e1, _⟩ := hok b _ z
      obtain ⟨e2, _⟩ := hok' b _ z2
      rw [e] at e1; cases e1
      exact e2
theorem law_callG (KX : K.In s₁.heap) (hns : s₁.heap.Ns mainGlobals mg) (hb : s₁.heap.Ns builtinsNs mb) (hbb : ∀ x : Str, x ≠ "__name__" → mb x = bootBuiltins x) (hlim : s₁.heap.NoLimit) (hg : s₁.gens = #[])
    (ha : s₁.heap.get? a = some { cls := .type "list", data := .seq vs.toArray }) (hi : PyProof.Rows.IntsAre vs ns) (hr : RoomG k callerA) (hn : ns.length ≤ n) (hl : n ≤ sizeLine) (hz : ∀ z ∈ ns, Builtin.Int.intBits z ≤ 1048576)
    (F : ∀ base : Heap, K.In base → base.Ns mainGlobals mg → FnG P w K mg base k fa fd [x] (toSp ⟨K, mg, w⟩ (SLaw n))) (hbind : ∀ (s : Shared) (u : Value), BindsTo s fd ⟨[u], []⟩ [(x, u)]) :
    codeAny (model P w) callerA (.call (.ref fa) ⟨[.ref a], []⟩) (fun r s' => r = .ok (.ret (.bool true)) ∧ OldK s₁.heap s'.heap ∧ s'.os = s₁.os ∧ PyProof.Rows.AllBare s'.gens) s₁ := by
  have rv := vals_ints hi
  have lenV := hi.length
  cases hk : K.lookup a with
  | some o =>
    have e := KX a o hk
    rw [ha] at e
    cases e
    exact law_run (H := fun _ => none) KX hns hb hbb hlim hg ha hr hn hz F hbind (fun _ => .inl rfl) (.inr ⟨_, vs.toArray, _, hk, rfl, rfl, rfl, by rw [List.size_toArray, lenV]; omega, by simpa using rv⟩) (fun b u z => nomatch z) (fun b z => absurd rfl z) fun z => absurd rfl z
  | none =>
    refine law_run (H := fun b => if b = a then some (.frz { cls := .type "list", data := .seq vs.toArray } (.lst (ns.map V.int))) else none) KX hns hb hbb hlim hg ha hr hn hz F hbind (fun b => ?_) (.inl (.inr ⟨_, if_pos rfl⟩)) (fun b u z => ?_) (fun b z => ?_) fun _ => hk
    · by_cases e : b = a
      · exact .inr ⟨_, _, if_pos e⟩
      · exact .inl (if_neg e)
    · by_cases e : b = a
      · cases (if_pos e).symm.trans z
        subst e
        exact ⟨ha, by rw [List.length_map]; omega, vs, _, rv, ha⟩
      · cases (if_neg e).symm.trans z
    · by_cases e : b = a
      · exact e
      · exact absurd (if_neg e) z
end
/-- the goal that k_head leaves, from the law's promise -/
theorem walk_lv {l : PySem.W.OpenLaw} {n k : Nat} {q : Program} {loose : List Str} {XP : (Str → Option Value) → Heap → Prop} {YP : World → Heap → Prop} {d : DefRec} {K : Params → PySem.W.Frag} {x : Str}
    (hn : l.most = some n) (hn2 : n ≤ sizeLine) (hdf : d.params.defaults = []) (hr : RoomG k callerA) (hY : ∀ (w : World) (h : Heap), YP w h → (K w.params).In h)
    (F : ∀ (w : World) (mg : Str → Option Value) (fa : Addr) (h : Heap), (K w.params).In h → h.Ns mainGlobals mg → mg d.name = some (.ref fa) →
      ∃ fd : FuncData, (∀ (s : Shared) (u : Value), BindsTo s fd ⟨[u], []⟩ [(x, u)]) ∧
        ∀ base : Heap, (K w.params).In base → base.Ns mainGlobals mg → FnG l.prog w (K w.params) mg base k fa fd [x] (toSp ⟨K w.params, mg, w⟩ (SLaw n))) :
    PySem.W.WalkO q loose XP YP l.row.toRowW d [] (fun f vs => PySem.call f vs) := by
  refine Att.attach_callB hn hdf fun w s₀ s₁ mg mb fa o pm cd doc a vs ns G Y ho hd hcd hmg hobj hints hlen hbits hg => ?_
  obtain ⟨fd, hb, hF⟩ := F w mg fa _ (hY w _ Y) G.T.g hmg
  exact law_callG (hY w _ Y) G.T.g G.T.b G.T.builtins G.T.nolimit hg hobj hints hr hlen hn2 hbits hF hb
end LV
namespace LV
open PySem PySem.Spec L2
end LV
namespace LV
open PySem PySem.Spec L2
theorem map3 {α β γ δ : Type} {o : Option α} {f : α → β} {g : α → γ} {h : α → δ} {a : β} {b : γ} {c : δ} (e1 : o.map f = some a) (e2 : o.map g = some b) (e3 : o.map h = some c) : o.map (fun s => (f s, g s, h s)) = some (a, b, c) := by
  cases o with
  | none => cases e1
  | some s =>
    injection e1 with e1
    injection e2 with e2
    injection e3 with e3
    show some (f s, g s, h s) = _
    rw [e1, e2, e3]
end LV
namespace LV
open PySem PySem.W PyProof.Rows HeadRun
theorem seen9 {α : Type} {o : Option α} {ab : α → Shared} {q : Program} {loose mods : List PySem.Str} {Xt : Shared → Bool}
    (e1 : o.map (fun s => (seenQ q loose mods Xt (ab s)).1) = some (expectedOf q))
    (e2 : o.map (fun s => (seenQ q loose mods Xt (ab s)).2.1) = some bltViewBooted)
    (e3 : o.map (fun s => (seenQ q loose mods Xt (ab s)).2.2.1) = some true)
    (e4 : o.map (fun s => (seenQ q loose mods Xt (ab s)).2.2.2.1) = some true)
    (e5 : o.map (fun s => (seenQ q loose mods Xt (ab s)).2.2.2.2.1) = some (pinGoodD (drecsOf q)))
    (e6 : o.map (fun s => (seenQ q loose mods Xt (ab s)).2.2.2.2.2.1) = some (plainGoodE q (looseW q loose)))
    (e7 : o.map (fun s => (seenQ q loose mods Xt (ab s)).2.2.2.2.2.2.1) = some (plainGoodD q loose))
    (e8 : o.map (fun s => (seenQ q loose mods Xt (ab s)).2.2.2.2.2.2.2.1) = some (wideGood q))
    (e9 : o.map (fun s => (seenQ q loose mods Xt (ab s)).2.2.2.2.2.2.2.2) = some (clsGoodW q loose)) :
    o.map (fun s => seenQ q loose mods Xt (ab s)) = some (openGood q loose) := by
  cases o with
  | none => cases e1
  | some s =>
    injection e1 with e1
    injection e2 with e2
    injection e3 with e3
    injection e4 with e4
    injection e5 with e5
    injection e6 with e6
    injection e7 with e7
    injection e8 with e8
    injection e9 with e9
    exact congrArg some (Prod.ext e1 (Prod.ext e2 (Prod.ext e3 (Prod.ext e4 (Prod.ext e5 (Prod.ext e6 (Prod.ext e7 (Prod.ext e8 e9))))))))
end LV
namespace LV
open PySem PySem.W PyProof.Rows HeadRun
/-- the same, told of another name of the view -/
theorem seen9q {α : Type} {o : Option α} {ab : α → Shared} {q q' : Program} {loose mods : List PySem.Str} {Xf : Program → Shared → Bool} (hq : q = q')
    (e1 : o.map (fun s => (seenQ q' loose mods (Xf q') (ab s)).1) = some (expectedOf q'))
    (e2 : o.map (fun s => (seenQ q' loose mods (Xf q') (ab s)).2.1) = some bltViewBooted)
    (e3 : o.map (fun s => (seenQ q' loose mods (Xf q') (ab s)).2.2.1) = some true)
    (e4 : o.map (fun s => (seenQ q' loose mods (Xf q') (ab s)).2.2.2.1) = some true)
    (e5 : o.map (fun s => (seenQ q' loose mods (Xf q') (ab s)).2.2.2.2.1) = some (pinGoodD (drecsOf q')))
    (e6 : o.map (fun s => (seenQ q' loose mods (Xf q') (ab s)).2.2.2.2.2.1) = some (plainGoodE q' (looseW q' loose)))
    (e7 : o.map (fun s => (seenQ q' loose mods (Xf q') (ab s)).2.2.2.2.2.2.1) = some (plainGoodD q' loose))
    (e8 : o.map (fun s => (seenQ q' loose mods (Xf q') (ab s)).2.2.2.2.2.2.2.1) = some (wideGood q'))
    (e9 : o.map (fun s => (seenQ q' loose mods (Xf q') (ab s)).2.2.2.2.2.2.2.2) = some (clsGoodW q' loose)) :
    o.map (fun s => seenQ q loose mods (Xf q) (ab s)) = some (openGood q loose) := by
  subst hq
  exact seen9 e1 e2 e3 e4 e5 e6 e7 e8 e9
end LV
namespace LV
open PySem PySem.W PyProof.Rows HeadRun
/-- place by place: the table's object, an empty one of no class, else the boot's, else nothing told -/
def lay : List (Nat × Obj) → List Nat → List Obj → Nat → Nat → List (Option Obj)
  | _, _, _, 0, _ => []
  | K, Z, B, m + 1, i => match K with
    | [] => match Z with
      | [] => B.head? :: frNat (i + 1) fun i => lay [] [] B.tail m i
      | z :: Z => match Nat.beq z i with
        | true => some ⟨.none, none, .fields #[], #[]⟩ :: frNat (i + 1) fun i => lay [] Z B.tail m i
        | false => B.head? :: frNat (i + 1) fun i => lay [] (z :: Z) B.tail m i
    | (a, o) :: r => match Nat.beq a i with
      | true => some o :: frNat (i + 1) fun i => lay r Z B.tail m i
      | false => match Z with
        | [] => B.head? :: frNat (i + 1) fun i => lay ((a, o) :: r) [] B.tail m i
        | z :: Z => match Nat.beq z i with
          | true => some ⟨.none, none, .fields #[], #[]⟩ :: frNat (i + 1) fun i => lay ((a, o) :: r) Z B.tail m i
          | false => B.head? :: frNat (i + 1) fun i => lay ((a, o) :: r) (z :: Z) B.tail m i
/-- what stands at the told places -/
def pick (t : Nat → Obj) : List (Option Obj) → Nat → List (Option Obj)
  | [], _ => []
  | some _ :: r, i => some (t i) :: frNat (i + 1) fun i => pick t r i
  | none :: r, i => none :: frNat (i + 1) fun i => pick t r i
/-- the told objects, and t's at the other places -/
def ov (t : Nat → Obj) : List (Option Obj) → Nat → List Obj
  | [], _ => []
  | some o :: r, i => o :: frNat (i + 1) fun i => ov t r i
  | none :: r, i => t i :: frNat (i + 1) fun i => ov t r i
theorem ov_pick {t : Nat → Obj} : ∀ {L : List (Option Obj)} {i : Nat}, pick t L i = L → ov t L i = (List.range' i L.length).map t
  | [], _, _ => rfl
  | none :: r, i, h => by
    simp only [pick, frNat_eq, List.cons.injEq, true_and] at h
    simp only [ov, frNat_eq, List.length_cons, List.range'_succ, List.map_cons, ov_pick h]
  | some o :: r, i, h => by
    simp only [pick, frNat_eq, List.cons.injEq, Option.some.injEq] at h
    simp only [ov, frNat_eq, List.length_cons, List.range'_succ, List.map_cons, ov_pick h.2, h.1]
abbrev atT (s : SharedT) : Nat → Obj := fun a => (s.tree.get a).getD default
/-- the end of the top: a heap of this kind -/
def shOf (L : List (Option Obj)) (life : Life) (gens : Array GenState) (t : Nat → Obj) (d : Drawn) (k : Nat) (os : OsState) : Shared := ⟨⟨(ov t L 0).toArray, life⟩, gens, d, k, os⟩
theorem end_abs {o : Option SharedT} {L : List (Option Obj)} {N : Nat} {life : Life} {gens : Array GenState} (hl : L.length = N)
    (h : o.map (fun s => (s.n, s.life, s.gens, pick (atT s) L 0)) = some (N, life, gens, L)) :
    ∃ s, o = some s ∧ s.abs = shOf L life gens (atT s) s.drawn s.toks s.os := by
  cases o with
  | none => cases h
  | some s =>
    refine ⟨s, rfl, ?_⟩
    injection h with h
    injection h with h1 h
    injection h with h2 h
    injection h with h3 h4
    unfold shOf SharedT.abs absHeap BT.list
    rw [ov_pick h4, hl, h1, h2, h3, List.range_eq_range']
theorem end_look {o : Option SharedT} {L : List (Option Obj)} {N : Nat} {life : Life} {gens : Array GenState} (hl : L.length = N)
    (h : o.map (fun s => (s.n, s.life, s.gens, pick (atT s) L 0)) = some (N, life, gens, L)) {α : Type} {f : Shared → α} {a : α}
    (H : ∀ t d k os, f (shOf L life gens t d k os) = a) : o.map (fun s => f s.abs) = some a := by
  obtain ⟨s, rfl, e⟩ := end_abs hl h
  show some (f s.abs) = some a
  rw [e, H]
/-- the objects at rising places are told -/
def okA : List (Option Obj) → List Nat → Nat → Bool
  | [], as, _ => match as with
    | [] => true
    | _ :: _ => false
  | x :: L, as, i => match as with
    | [] => true
    | a :: r => match Nat.beq a i with
      | true => match x with
        | none => false
        | some _ => frNat (i + 1) fun i => okA L r i
      | false => frNat (i + 1) fun i => okA L (a :: r) i
def toldL : List (Option Obj) → List Nat → Nat → List (Option Obj)
  | [], _, _ => []
  | x :: L, as, i => match as with
    | [] => []
    | a :: r => match Nat.beq a i with
      | true => match x with
        | none => []
        | some o => alive o :: frNat (i + 1) fun i => toldL L r i
      | false => frNat (i + 1) fun i => toldL L (a :: r) i
theorem told_ok {t : Nat → Obj} : ∀ {L : List (Option Obj)} {as : List Nat} {i : Nat}, okA L as i = true → pick t L i = L → (∀ a ∈ as, a < i + L.length) ∧ as.map (fun a => alive (t a)) = toldL L as i
  | [], [], _, _, _ => ⟨(fun _ h => (nomatch h)), rfl⟩
  | [], _ :: _, _, h, _ => nomatch h
  | x :: L, [], _, _, _ => ⟨(fun _ h => (nomatch h)), rfl⟩
  | x :: L, a :: r, i, h, hp => by
    have hp' : pick t L (i + 1) = L ∧ ∀ o, x = some o → t i = o := by
      cases x with
      | none =>
        simp only [pick, frNat_eq, List.cons.injEq, true_and] at hp
        exact ⟨hp, fun _ z => nomatch z⟩
      | some o =>
        simp only [pick, frNat_eq, List.cons.injEq, Option.some.injEq] at hp
        exact ⟨hp.2, fun _ z => by cases z; exact hp.1⟩
    obtain ⟨hq, ho⟩ := hp'
    cases e : Nat.beq a i with
    | true =>
      have ai : a = i := Nat.eq_of_beq_eq_true e
      subst ai
      cases x with
      | none => simp only [okA, e] at h; exact nomatch h
      | some o =>
        simp only [okA, e, frNat_eq] at h
        obtain ⟨h1, h2⟩ := told_ok h hq
        refine ⟨fun b hb => ?_, ?_⟩
        · rcases List.mem_cons.mp hb with rfl | hb
          · rw [List.length_cons]; omega
          · have := h1 b hb; rw [List.length_cons]; omega
        · simp only [toldL, e, frNat_eq, List.map_cons, h2, ho o rfl]
    | false =>
      simp only [okA, e, frNat_eq] at h
      obtain ⟨h1, h2⟩ := told_ok h hq
      refine ⟨fun b hb => ?_, ?_⟩
      · have := h1 b hb; rw [List.length_cons]; omega
      · simp only [toldL, e, frNat_eq]
        exact h2
theorem getT_at {s : SharedT} {a : Nat} (h : a < s.n) : getT s a = alive (atT s a) := by
  unfold getT
  rw [show Nat.blt a s.n = true from Nat.ble_eq_true_of_le h]
  show (match s.tree.get a with
    | some o => alive o
    | none => alive default) = alive ((s.tree.get a).getD default)
  cases s.tree.get a <;> rfl
theorem end_objs {o : Option SharedT} {L : List (Option Obj)} {N : Nat} {life : Life} {gens : Array GenState} (hl : L.length = N)
    (h : o.map (fun s => (s.n, s.life, s.gens, pick (atT s) L 0)) = some (N, life, gens, L)) {as : List Nat} {a : List (Option Obj)}
    (hk : okA L as 0 = true) (H : toldL L as 0 = a) : o.map (fun s => as.map (getT s)) = some a := by
  cases o with
  | none => cases h
  | some s =>
    injection h with h
    injection h with h1 h
    injection h with h2 h
    injection h with h3 h4
    obtain ⟨t1, t2⟩ := told_ok hk h4
    show some (as.map (getT s)) = some a
    rw [← H, ← t2]
    refine congrArg some (List.map_congr_left fun b hb => getT_at ?_)
    have := t1 b hb
    rw [h1]
    omega
end LV
namespace LV
open PySem PySem.W PyProof.Rows HeadRun
section
local macro_rules | `(tactic| first | $_ | $_) => `(tactic| assumption)
set_option maxHeartbeats 0 in
theorem hdry : PySem.Challenge.rw_lampthrong_k02_rows_under.row.Holds → PySem.Challenge.rw_lampthrong_k02_rows_under.row.Holds := by
  intro h
  k_headL
set_option maxHeartbeats 0 in
theorem hdra : OpenRow.Holds { PySem.Challenge.rw_lampthrong_k02_rows_under.row with name := "zz" } → OpenRow.Holds { PySem.Challenge.rw_lampthrong_k02_rows_under.row with name := "zz" } := by
  intro h
  k_headL
end
end LV
namespace LV
open PySem PySem.W PyProof.Rows HeadRun
noncomputable abbrev hdQ : Program := LV.hdry.view_1
abbrev hdL : List PySem.Str := []
abbrev hdF (q : Program) (s : Shared) : Bool := xlAt q [] s && recOk PySem.Challenge.rw_lampthrong_k02_rows_under.row.records s
abbrev hdA : List Nat := [
  2, 3, 6, 15, 17, 18, 20, 21, 22, 25, 26, 27, 29, 30, 32, 33, 34, 36, 37, 39, 40, 41, 44, 45, 46, 48, 49, 51, 52, 53, 55, 56, 58, 59, 60, 62, 63, 65, 66, 67,
  69, 70, 72, 73, 74, 76, 77, 79, 80]
abbrev hdZ : List Nat := [
  8, 16, 23, 28, 35, 42, 47, 54, 61, 68, 75]
noncomputable def hdT (w : World) : List (Option Obj) := lay (LV.hdra.heap_1 w.params) hdZ (boot_heap w.params).objs.toList 81 0
theorem hd_n (w : World) : (hdT w).length = 81 := by kernel_rfl
def stR (w : World) (os : OsState) : Prop := (endF (stepQ (denQ tabQ) PySem.Challenge.rw_lampthrong_k02_rows_under.row.prog w) 880 PySem.Challenge.rw_lampthrong_k02_rows_under.row.prog w os).map (fun s => (s.n, s.life, s.gens, pick (atT s) (hdT w) 0)) = some (81, (boot_heap w.params).life, #[], hdT w)
theorem hd_r (w : World) (os : OsState) : stR w os := by
  unfold stR
  kernel_rfl
theorem hd_e1l (w : World) : ∀ t d k o, looksF PySem.Challenge.rw_lampthrong_k02_rows_under.row.prog (boot_heap w.params) (shOf (hdT w) (boot_heap w.params).life #[] t d k o) = true := by
  intro t d k o
  kernel_rfl
theorem hd_e1 : ∀ (w : World) (os : OsState), (endF (stepQ (denQ tabQ) PySem.Challenge.rw_lampthrong_k02_rows_under.row.prog w) 880 PySem.Challenge.rw_lampthrong_k02_rows_under.row.prog w os).map (fun s => looksF PySem.Challenge.rw_lampthrong_k02_rows_under.row.prog (boot_heap w.params) s.abs) = some (true) := fun w os => end_look (f := fun S => looksF PySem.Challenge.rw_lampthrong_k02_rows_under.row.prog (boot_heap w.params) S) (hd_n w) (hd_r w os) (hd_e1l w)
theorem hd_a1l (w : World) : ∀ t d k o, (seenQ hdQ hdL (importedModules PySem.Challenge.rw_lampthrong_k02_rows_under.row.prog.main.body) (hdF hdQ) (shOf (hdT w) (boot_heap w.params).life #[] t d k o)).1 = expectedOf hdQ := by
  intro t d k o
  kernel_rfl
theorem hd_a1 : ∀ (w : World) (os : OsState), (endF (stepQ (denQ tabQ) PySem.Challenge.rw_lampthrong_k02_rows_under.row.prog w) 880 PySem.Challenge.rw_lampthrong_k02_rows_under.row.prog w os).map (fun s => (seenQ hdQ hdL (importedModules PySem.Challenge.rw_lampthrong_k02_rows_under.row.prog.main.body) (hdF hdQ) s.abs).1) = some (expectedOf hdQ) := fun w os => end_look (f := fun S => (seenQ hdQ hdL (importedModules PySem.Challenge.rw_lampthrong_k02_rows_under.row.prog.main.body) (hdF hdQ) S).1) (hd_n w) (hd_r w os) (hd_a1l w)
theorem hd_a2l (w : World) : ∀ t d k o, (seenQ hdQ hdL (importedModules PySem.Challenge.rw_lampthrong_k02_rows_under.row.prog.main.body) (hdF hdQ) (shOf (hdT w) (boot_heap w.params).life #[] t d k o)).2.1 = bltViewBooted := by
  intro t d k o
  kernel_rfl
theorem hd_a2 : ∀ (w : World) (os : OsState), (endF (stepQ (denQ tabQ) PySem.Challenge.rw_lampthrong_k02_rows_under.row.prog w) 880 PySem.Challenge.rw_lampthrong_k02_rows_under.row.prog w os).map (fun s => (seenQ hdQ hdL (importedModules PySem.Challenge.rw_lampthrong_k02_rows_under.row.prog.main.body) (hdF hdQ) s.abs).2.1) = some (bltViewBooted) := fun w os => end_look (f := fun S => (seenQ hdQ hdL (importedModules PySem.Challenge.rw_lampthrong_k02_rows_under.row.prog.main.body) (hdF hdQ) S).2.1) (hd_n w) (hd_r w os) (hd_a2l w)
theorem hd_a3l (w : World) : ∀ t d k o, (seenQ hdQ hdL (importedModules PySem.Challenge.rw_lampthrong_k02_rows_under.row.prog.main.body) (hdF hdQ) (shOf (hdT w) (boot_heap w.params).life #[] t d k o)).2.2.1 = true := by
  intro t d k o
  kernel_rfl
theorem hd_a3 : ∀ (w : World) (os : OsState), (endF (stepQ (denQ tabQ) PySem.Challenge.rw_lampthrong_k02_rows_under.row.prog w) 880 PySem.Challenge.rw_lampthrong_k02_rows_under.row.prog w os).map (fun s => (seenQ hdQ hdL (importedModules PySem.Challenge.rw_lampthrong_k02_rows_under.row.prog.main.body) (hdF hdQ) s.abs).2.2.1) = some (true) := fun w os => end_look (f := fun S => (seenQ hdQ hdL (importedModules PySem.Challenge.rw_lampthrong_k02_rows_under.row.prog.main.body) (hdF hdQ) S).2.2.1) (hd_n w) (hd_r w os) (hd_a3l w)
theorem hd_a4l (w : World) : ∀ t d k o, (seenQ hdQ hdL (importedModules PySem.Challenge.rw_lampthrong_k02_rows_under.row.prog.main.body) (hdF hdQ) (shOf (hdT w) (boot_heap w.params).life #[] t d k o)).2.2.2.1 = true := by
  intro t d k o
  kernel_rfl
theorem hd_a4 : ∀ (w : World) (os : OsState), (endF (stepQ (denQ tabQ) PySem.Challenge.rw_lampthrong_k02_rows_under.row.prog w) 880 PySem.Challenge.rw_lampthrong_k02_rows_under.row.prog w os).map (fun s => (seenQ hdQ hdL (importedModules PySem.Challenge.rw_lampthrong_k02_rows_under.row.prog.main.body) (hdF hdQ) s.abs).2.2.2.1) = some (true) := fun w os => end_look (f := fun S => (seenQ hdQ hdL (importedModules PySem.Challenge.rw_lampthrong_k02_rows_under.row.prog.main.body) (hdF hdQ) S).2.2.2.1) (hd_n w) (hd_r w os) (hd_a4l w)
theorem hd_a5l (w : World) : ∀ t d k o, (seenQ hdQ hdL (importedModules PySem.Challenge.rw_lampthrong_k02_rows_under.row.prog.main.body) (hdF hdQ) (shOf (hdT w) (boot_heap w.params).life #[] t d k o)).2.2.2.2.1 = pinGoodD (drecsOf hdQ) := by
  intro t d k o
  kernel_rfl
theorem hd_a5 : ∀ (w : World) (os : OsState), (endF (stepQ (denQ tabQ) PySem.Challenge.rw_lampthrong_k02_rows_under.row.prog w) 880 PySem.Challenge.rw_lampthrong_k02_rows_under.row.prog w os).map (fun s => (seenQ hdQ hdL (importedModules PySem.Challenge.rw_lampthrong_k02_rows_under.row.prog.main.body) (hdF hdQ) s.abs).2.2.2.2.1) = some (pinGoodD (drecsOf hdQ)) := fun w os => end_look (f := fun S => (seenQ hdQ hdL (importedModules PySem.Challenge.rw_lampthrong_k02_rows_under.row.prog.main.body) (hdF hdQ) S).2.2.2.2.1) (hd_n w) (hd_r w os) (hd_a5l w)
theorem hd_a6l (w : World) : ∀ t d k o, (seenQ hdQ hdL (importedModules PySem.Challenge.rw_lampthrong_k02_rows_under.row.prog.main.body) (hdF hdQ) (shOf (hdT w) (boot_heap w.params).life #[] t d k o)).2.2.2.2.2.1 = plainGoodE hdQ (looseW hdQ hdL) := by
  intro t d k o
  kernel_rfl
theorem hd_a6 : ∀ (w : World) (os : OsState), (endF (stepQ (denQ tabQ) PySem.Challenge.rw_lampthrong_k02_rows_under.row.prog w) 880 PySem.Challenge.rw_lampthrong_k02_rows_under.row.prog w os).map (fun s => (seenQ hdQ hdL (importedModules PySem.Challenge.rw_lampthrong_k02_rows_under.row.prog.main.body) (hdF hdQ) s.abs).2.2.2.2.2.1) = some (plainGoodE hdQ (looseW hdQ hdL)) := fun w os => end_look (f := fun S => (seenQ hdQ hdL (importedModules PySem.Challenge.rw_lampthrong_k02_rows_under.row.prog.main.body) (hdF hdQ) S).2.2.2.2.2.1) (hd_n w) (hd_r w os) (hd_a6l w)
theorem hd_a7l (w : World) : ∀ t d k o, (seenQ hdQ hdL (importedModules PySem.Challenge.rw_lampthrong_k02_rows_under.row.prog.main.body) (hdF hdQ) (shOf (hdT w) (boot_heap w.params).life #[] t d k o)).2.2.2.2.2.2.1 = plainGoodD hdQ hdL := by
  intro t d k o
  kernel_rfl
theorem hd_a7 : ∀ (w : World) (os : OsState), (endF (stepQ (denQ tabQ) PySem.Challenge.rw_lampthrong_k02_rows_under.row.prog w) 880 PySem.Challenge.rw_lampthrong_k02_rows_under.row.prog w os).map (fun s => (seenQ hdQ hdL (importedModules PySem.Challenge.rw_lampthrong_k02_rows_under.row.prog.main.body) (hdF hdQ) s.abs).2.2.2.2.2.2.1) = some (plainGoodD hdQ hdL) := fun w os => end_look (f := fun S => (seenQ hdQ hdL (importedModules PySem.Challenge.rw_lampthrong_k02_rows_under.row.prog.main.body) (hdF hdQ) S).2.2.2.2.2.2.1) (hd_n w) (hd_r w os) (hd_a7l w)
theorem hd_a8l (w : World) : ∀ t d k o, (seenQ hdQ hdL (importedModules PySem.Challenge.rw_lampthrong_k02_rows_under.row.prog.main.body) (hdF hdQ) (shOf (hdT w) (boot_heap w.params).life #[] t d k o)).2.2.2.2.2.2.2.1 = wideGood hdQ := by
  intro t d k o
  kernel_rfl
theorem hd_a8 : ∀ (w : World) (os : OsState), (endF (stepQ (denQ tabQ) PySem.Challenge.rw_lampthrong_k02_rows_under.row.prog w) 880 PySem.Challenge.rw_lampthrong_k02_rows_under.row.prog w os).map (fun s => (seenQ hdQ hdL (importedModules PySem.Challenge.rw_lampthrong_k02_rows_under.row.prog.main.body) (hdF hdQ) s.abs).2.2.2.2.2.2.2.1) = some (wideGood hdQ) := fun w os => end_look (f := fun S => (seenQ hdQ hdL (importedModules PySem.Challenge.rw_lampthrong_k02_rows_under.row.prog.main.body) (hdF hdQ) S).2.2.2.2.2.2.2.1) (hd_n w) (hd_r w os) (hd_a8l w)
theorem hd_a9l (w : World) : ∀ t d k o, (seenQ hdQ hdL (importedModules PySem.Challenge.rw_lampthrong_k02_rows_under.row.prog.main.body) (hdF hdQ) (shOf (hdT w) (boot_heap w.params).life #[] t d k o)).2.2.2.2.2.2.2.2 = clsGoodW hdQ hdL := by
  intro t d k o
  kernel_rfl
theorem hd_a9 : ∀ (w : World) (os : OsState), (endF (stepQ (denQ tabQ) PySem.Challenge.rw_lampthrong_k02_rows_under.row.prog w) 880 PySem.Challenge.rw_lampthrong_k02_rows_under.row.prog w os).map (fun s => (seenQ hdQ hdL (importedModules PySem.Challenge.rw_lampthrong_k02_rows_under.row.prog.main.body) (hdF hdQ) s.abs).2.2.2.2.2.2.2.2) = some (clsGoodW hdQ hdL) := fun w os => end_look (f := fun S => (seenQ hdQ hdL (importedModules PySem.Challenge.rw_lampthrong_k02_rows_under.row.prog.main.body) (hdF hdQ) S).2.2.2.2.2.2.2.2) (hd_n w) (hd_r w os) (hd_a9l w)
theorem hd_e3k (w : World) : okA (hdT w) hdA 0 = true := by kernel_rfl
theorem hd_e3l (w : World) : toldL (hdT w) hdA 0 = (LV.hdry.heap_1 w.params).map fun x => some x.2 := by kernel_rfl
theorem hd_e3 : ∀ (w : World) (os : OsState), (endF (stepQ (denQ tabQ) PySem.Challenge.rw_lampthrong_k02_rows_under.row.prog w) 880 PySem.Challenge.rw_lampthrong_k02_rows_under.row.prog w os).map (fun s => hdA.map (HeadRun.getT s)) = some ((LV.hdry.heap_1 w.params).map fun x => some x.2) := fun w os => end_objs (hd_n w) (hd_r w os) (hd_e3k w) (hd_e3l w)
end LV
namespace LV
open PySem PySem.Spec L2
inductive Ty where | non | bl | int | str | tup | lst | dct
  deriving DecidableEq
def Ty.nm : Ty → String
  | .non => "NoneType" | .bl => "bool" | .int => "int" | .str => "str" | .tup => "tuple" | .lst => "list" | .dct => "dict"
def isaT : Ty → Ty → Bool
  | .bl, .int => true
  | a, b => a = b
theorem kitT : ∀ a b : Ty, kitB a.nm b.nm = some (isaT a b) := by
  intro a b
  cases a <;> cases b <;> decide +kernel
def D.ty : D → Option Ty
  | .non => some .non | .bl _ => some .bl | .int _ => some .int | .str _ => some .str | .tup _ => some .tup | .lst _ => some .lst | .scr _ => some .lst | .dct _ _ => none | .ins _ _ _ => none | .cls _ => none | .ptr _ => none | .exn _ _ _ => none | .tpn _ => some .tup
theorem tyx_seqT {K : PySem.W.Frag} {H : Hp} {a : Addr} {xs : List V} (h : SqT K H a xs) : TyX K H (.ref a) (.type "tuple") := by
  rcases h with (h | ⟨o, h⟩) | ⟨o, its, n, h, hc, _⟩
  · exact .base (.tup h)
  · exact .fTuple h
  · exact .kTuple h hc
theorem tyx_seqL {K : PySem.W.Frag} {H : Hp} {a : Addr} {xs : List V} (h : SqL K H a xs) : TyX K H (.ref a) (.type "list") := by
  rcases h with (h | ⟨o, h⟩) | ⟨o, its, n, h, hc, _⟩
  · exact .base (.lst h)
  · exact .base (.frz h)
  · exact .kList h hc
theorem Vw.tyx {M : Md} {F H : Hp} (sm : Same F H) {v : V} {d : D} {t : Ty} (h : Vw M F H v d) (e : d.ty = some t) : TyX M.K H v (.type t.nm) := by
  cases d with
  | non => cases h; cases e; exact .base .non
  | bl b => cases h; cases e; exact .base (.bl _)
  | int b => cases h; cases e; exact .base (.int _)
  | str b => cases h; cases e; exact .base (.str _)
  | tup ds => obtain ⟨a, xs, rfl, h1, _⟩ := h; cases e; exact tyx_seqT (Same.sqT sm h1)
  | lst ds => obtain ⟨a, xs, rfl, h1, _⟩ := h; cases e; exact .base (.lst h1)
  | scr ns => obtain ⟨a, rfl, h1⟩ := h; cases e; exact tyx_seqL h1
  | dct _ _ => cases e
  | ins _ _ _ => cases e
  | cls _ => cases e
  | ptr _ => cases e
  | exn _ _ _ => cases e
  | tpn ds => obtain ⟨a, o, xs, rfl, h1, _⟩ := h; cases e; exact tyx_seqT (.inl (.inr ⟨o, sm _ _ h1⟩))
section
variable {X : Cx} {c : Ct} {W : WX} {e : Expr} {es : List Expr} {w : EW} {p p2 pos : Pos}
def wIsi (T : Ty) (w : EW) : EW := fun env Q E => wFz w env (fun r e => ∃ d t, look e r = some d ∧ d.ty = some t ∧ Q (.fz (.bl (isaT t T))) e) E
theorem Mono.isi {T : Ty} (m : Mono w) : Mono (wIsi T w) := ⟨fun hQ hE h => m.fz.mo (fun r e ⟨d, t, a, b, q⟩ => ⟨d, t, a, b, hQ _ _ q⟩) hE h⟩
theorem se_isi {x : Str} {T : Ty} (h : SE X c W e w) (hg : Gl X "isinstance") (hm : X.mg "isinstance" = none) (hgx : Gl X x) (hmx : X.mg x = none) (hv : bootBuiltins x = some (.type T.nm)) (hn : x ≠ "__name__" := by decide) (hdx : (x == ("__debug__" : Str)) = false := by decide)
    (hb : bootBuiltins "isinstance" = some (.builtin "isinstance") := by with_unfolding_all rfl)
    (hs1 : starEach [e, .Name x p2] X.env = (false, eval e X.env) :: starEach [.Name x p2] X.env := by rfl) (hs2 : starEach [.Name x p2] X.env = (false, eval (.Name x p2) X.env) :: starEach [] X.env := by rfl) (hpl : (backTo pos (starEach [.Name x p2] X.env)).any (·.1) = false := by rfl) :
    SE X c W (.Call (.Name "isinstance" p) [e, .Name x p2] [] pos) (wIsi T w) := by
  refine ⟨PE.imp (pe_callB call_isi hg hm hb (pa_cons h.pe (pa_cons (pe_bltn hgx hmx hv (v := .ty T.nm) rfl hn hdx) pa_nil hs2) hs1) (by decide) (by decide) hs1 hpl) fun σ H Q q => ?_, .isi h.mo⟩
  obtain ⟨F, env, R, q⟩ := q
  refine opd h.mo R q fun r e' v F' H' R' ev ok ⟨d, t, l, ht, z⟩ => ?_
  exact ⟨v, .ty T.nm, .type t.nm, .type T.nm, isaT t T, rfl, .ty _, (ok.vw R' l).tyx R'.sub ht, kit_ty (kitT _ _), z (.bl _) F' H' R' ev (.bl _)⟩
def wRev (i : Nat) : SW := fun K env => ∃ ds, env[i]? = some (some (.ow (.lst ds))) ∧ K.nx (env.set i (some (.ow (.lst ds.reverse))))
end
end LV
namespace LV
open PySem PySem.Spec L2
abbrev rowD (r : List Int) : D := .tup (r.map D.int)
end LV
set_option maxHeartbeats 4000000
namespace LV
open PySem PySem.Spec PyProof.Rows L2
/-- t * 1, t not empty: t itself -/
theorem tuple_mul1 (l : Addr) (items : Array Value) (n : Nat) (dd : Option Addr) (sl : Array (Option Value)) (u : Tok) :
    Meets (Builtin.«tuple.__mul__» ⟨[.ref l, .int 1 u], []⟩) (fun _ R s => s.heap.get? l = some { cls := .type "tuple", dict := dd, data := .seq items n, slots := sl } ∧ R (.ok (.ret (Value.ref l))) s) :=
  .of_wp fun prog w A R s h => by
    obtain ⟨hp, g, d, tk, os⟩ := s
    obtain ⟨hl, h⟩ := h
    have f1 := AutoSeq1.idx_int
    wp_walk using wpAny_loadPart' hl
    exact ⟨_, rfl, h⟩
/-- t * int by values: 1 gives t itself -/
def rRep1 (K : PySem.W.Frag) : R2 := fun x y H Q => ∃ l xs, x = .ref l ∧ y = .int 1 ∧ SqT K H l xs ∧ Q (.ref l) H
theorem op_rep1 {X : Cx} : OpR X (binaryOp .Mult) (rRep1 X.K) := by
  intro pins s σ H x y v u Q I rx ry h
  obtain ⟨l, xs, rfl, rfl, hT, q⟩ := h
  cases rx
  obtain ⟨t, rfl⟩ := ry
  obtain ⟨its, r, ⟨⟨cls, dd, data, sl⟩, ho, hc, n, hd⟩, hs⟩ := I.tuple hT
  simp only at hc hd
  subst hc hd
  exact wpAny_binaryOp_repeat_ref (T := "tuple") (U := "int") (by decide) ⟨_, ho, rfl⟩ (fun s' => typeIs_int s' 1 t) noFill_tuple_mul F.fills_int_mul F.slot_int_rmul repeat_tuple F.slot_int_index.lookup
    (call_meets F.slot_int_rmul (typeIs_int s 1 t) F.entry_int_rmul (F.args_int_rmul_2 _ _) (int_rmul_tuple 1 t l its.toArray n dd sl)
      ⟨ho, rfl, ⟨_, ho, rfl⟩, call_meets F.slot_tuple_mul ⟨_, ho, rfl⟩ F.entry_tuple_mul (F.args_tuple_mul_2 _ _) (tuple_mul1 l its.toArray n dd sl t) ⟨ho, ⟨.ref l, H, I, rfl, q⟩⟩⟩)
end LV
namespace LV
open PySem PySem.Spec L2
def gMulT : G2 := fun a b Q => (∃ xs, a = .tup xs ∧ b = .int 1 ∧ Q (.fz (.tup xs))) ∨ gMul a b Q
theorem vr_mulT {X : Cx} : VR2 X (binaryOp .Mult) gMulT where
  ok := by
    intro pins s σ H x y v u Q I rx ry ⟨F, da, db, sm, vx, vy, q⟩
    rcases q with ⟨xs, rfl, rfl, q⟩ | q
    · obtain ⟨a, vs, rfl, h1, h2⟩ := vx
      cases vy
      exact op_rep1 pins s σ H _ _ v u Q I rx ry ⟨a, vs, rfl, rfl, Same.sqT sm h1, q.here sm (.tup h1 h2)⟩
    · exact vr_mul.ok pins s σ H x y v u Q I rx ry ⟨F, da, db, sm, vx, vy, q⟩
  mo := ⟨fun h q => q.elim (fun ⟨xs, a, b, q⟩ => .inl ⟨xs, a, b, h _ q⟩) fun q => .inr (Mono2.mul.mo h q)⟩
theorem gMulT_ii {i j : Int} {Q : Rv → Prop} : gMulT (.int i) (.int j) Q = (CMulX i j ∧ Q (.fz (.int (i * j)))) := propext ⟨fun h => h.elim (fun ⟨_, a, _⟩ => (nomatch a)) id, fun h => .inr h⟩
theorem gMulT_li {i : Int} {xs : List D} {Q : Rv → Prop} : gMulT (.lst xs) (.int i) Q = (-(2 ^ 63) ≤ i ∧ i < 2 ^ 63 ∧ xs.length * i.toNat ≤ sizeLine ∧ Q (.ow (.lst (List.replicate i.toNat xs).flatten))) := propext ⟨fun h => h.elim (fun ⟨_, a, _⟩ => (nomatch a)) id, fun h => .inr h⟩
/-- (x,) * k, k from 1 on -/
theorem gMulT_one {d : D} {k : Int} {Q : Rv → Prop} (h1 : 1 ≤ k) (h2 : k ≤ 1000) (q : Q (.fz (.tup (List.replicate k.toNat d)))) : gMulT (.tup [d]) (.int k) Q := by
  by_cases e : k = 1
  · subst e; exact .inl ⟨_, rfl, rfl, q⟩
  · refine .inr ⟨by simp, by omega, h2, by simp, ?_⟩
    rw [show (List.replicate k.toNat [d]).flatten = List.replicate k.toNat d by
      generalize k.toNat = n
      induction n with
      | zero => rfl
      | succ n ih => rw [List.replicate_succ, List.flatten_cons, ih, List.replicate_succ]; rfl]
    exact q
end LV
set_option maxHeartbeats 400000
namespace LV
open PySem PySem.Spec L2
end LV
set_option maxHeartbeats 1000000
namespace LV
open PySem PySem.Spec L2
theorem tk0 {X : Cx} : Takes X W0 := fun _ _ ⟨_, _, _, _, _, _, _, _, _, _, _, _, _, _, _, _, h⟩ => h.elim
section
variable {P : Program} {w : World} {K : PySem.W.Frag} {mg : Str → Option Value} {base : Heap} {N : List Str} {qual : Str} {scope : Scope} {f : Addr} {cd : Value} {A : Around} {outer : List Env} {s : Shared} {H : Hp} {E : XK}
theorem tkF : Takes (cxOf (L2.CX P w) P w K mg base N qual scope f cd A outer s H E) (fun cls d _ H => E cls d H) := takes_of rfl rfl rfl rfl
theorem poF : PassesOwn (model (cxOf (L2.CX P w) P w K mg base N qual scope f cd A outer s H E).prog (cxOf (L2.CX P w) P w K mg base N qual scope f cd A outer s H E).w) (cxOf (L2.CX P w) P w K mg base N qual scope f cd A outer s H E).A
    (cxOf (L2.CX P w) P w K mg base N qual scope f cd A outer s H E).env (cxOf (L2.CX P w) P w K mg base N qual scope f cd A outer s H E).xe := passes_of rfl
end
/-- a def of the text as it stands in the module -/
structure DefAt (K : PySem.W.Frag) (mg : Str → Option Value) (x : Str) (st : Stmt) (ps : List Str) (f : Addr) (fd : FuncData) : Prop where
  fn : Fun K x x st f fd
  at_ : mg x = some (.ref f)
  bd : Binds K fd ps []
/-- the def named x keeps S -/
structure Ok (P : Program) (w : World) (K : PySem.W.Frag) (mg : Str → Option Value) (base : Heap) (x : Str) (ps : List Str) (k : Nat) (S : FSpec) : Prop where
  ex : ∃ f fd, FnG P w K mg base k f fd ps (toSp ⟨K, mg, w⟩ S) ∧ mg x = some (.ref f) ∧ PySem.W.keepIn K (.ref f) = true ∧ Binds K fd ps []
theorem ok_mk {P : Program} {w : World} {K : PySem.W.Frag} {mg : Str → Option Value} {base : Heap} {x : Str} {st : Stmt} {f : Addr} {fd : FuncData} {N ps : List Str} {k : Nat} {S : FSpec} {b : SW} (pn : List Nat) (D : DefAt K mg x st ps f fd) (Sc : FnScope N ps (defScope st)) (kp : Keeps S pn ps.length N.length b)
    (hbody : ∀ (cdv : Value) (A : Around) (outer : List Env) (s : Shared) (H : Hp) (E : XK), RoomG k (A.deeper (PyProof.Rows.envOfC x (defScope st) s.heap.objs.size f cdv)) →
      ∀ (σ₀ : L2.St) (h₀ : Hp) (xc : Addr → Value → Option Addr → Prop) (hN : Hp), SSs (cxOf (L2.CX P w) P w K mg base N x (defScope st) f cdv A outer s H E) ⟨pn, σ₀, h₀, xc, hN⟩ (fun cls d _ H => E cls d H) (defBody st) b) :
    Ok P w K mg base x ps (k + 1) S :=
  ⟨f, fd, fn_lvG pn D.fn Sc kp fun cdv A outer s H E hr c hc => match c, hc with
    | ⟨_, σ₀, h₀, xc, hN⟩, rfl => hbody cdv A outer s H E hr σ₀ h₀ xc hN, D.at_, D.fn.kp, D.bd⟩
section
variable {X : Cx} {c : Ct} {W : WX} {e : Expr} {es : List Expr} {w : EW} {wl : AW} {pos p : Pos} {x : Str} {k j : Nat} {ps : List Str} {S : FSpec}
theorem se_callO (O : Ok X.prog X.w X.K X.mg X.base x ps k S) (mS : MonoF S) (tk : Takes X W) (hr : RoomG j X.A) (hg : Gl X x) (ha : SA X c W (e :: es) wl) (hk : k ≤ j := by decide) (hdb : (x == ("__debug__" : Str)) = false := by decide)
    (he : starEach (e :: es) X.env = (false, eval e X.env) :: starEach es X.env := by rfl) (hpl : (backTo pos (starEach es X.env)).any (·.1) = false := by rfl) :
    SE X c W (.Call (.Name x p) (e :: es) [] pos) (wCall S wl) :=
  let ⟨_, _, F, hm, hkp, hb⟩ := O.ex
  ⟨(se_callG F mS tk (RoomG.mono hr hk) hg hm hkp hb ha hdb he hpl).pe, .call mS ha.mo⟩
/-- an argument handed over as data: a slot's object is frozen -/
def wFrz (w : EW) : EW := fun env Q E => wFz w env (fun r e => ∃ d e2, frz1 e r = some (d, e2) ∧ Q (.fz d) e2) E
theorem Mono.frz (m : Mono w) : Mono (wFrz w) := ⟨fun hQ hE h => m.fz.mo (fun r e ⟨d, e2, a, q⟩ => ⟨d, e2, a, hQ _ _ q⟩) hE h⟩
theorem se_frz (h : SE X c W e w) : SE X c W e (wFrz w) := by
  refine ⟨PE.imp h.pe fun σ H Q q => ?_, .frz h.mo⟩
  obtain ⟨F, env, R, q⟩ := q
  refine opd h.mo R q fun r e' v F' H' R' ev ok ⟨d, e2, a, z⟩ => ?_
  obtain ⟨F2, R2, ev2, rv⟩ := frz1_ok R' ok a
  exact z v F2 H' R2 (ev.trans ev2) rv
/-- -e of an int -/
def wNeg (w : EW) : EW := fun env Q E => w env (fun r e => ∃ i, r = .fz (.int i) ∧ Q (.fz (.int (-i))) e) E
theorem Mono.neg (m : Mono w) : Mono (wNeg w) := ⟨fun hQ hE h => m.mo (fun r e ⟨i, a, q⟩ => ⟨i, a, hQ _ _ q⟩) hE h⟩
theorem se_neg (h : SE X c W e w) : SE X c W (.UnaryOp .USub e pos) (wNeg w) := by
  refine ⟨PE.imp (pe_un un_neg h.pe) fun σ H Q q => ?_, .neg h.mo⟩
  obtain ⟨F, env, R, q⟩ := q
  refine ⟨F, env, R, h.mo.mo (fun r e ⟨i, a, z⟩ => ?_) (fun _ _ z => z) q⟩
  subst a
  intro v F' H' R' ev ok
  cases ok
  exact ⟨i, rfl, z (.int (-i)) F' H' R' ev (.int _)⟩
end
end LV
namespace LV
open PySem PySem.Spec L2
theorem RoomG.u0 {k : Nat} {A : Around} (r : RoomG k A) : A.units < cLine := by have := r.rm.un; omega
theorem RoomG.u64 {k : Nat} {A : Around} (r : RoomG k A) : A.units + 64 < cLine := by have := r.rm.un; omega
/-- an own exception class of one field, with all that its use asks -/
structure XCls (P : Program) (w : World) (K : PySem.W.Frag) (mg : Str → Option Value) (base : Heap) (Cn f : Str) : Prop where
  ex : ∃ (C fI : Addr) (fd : FuncData) (p : Str), mg Cn = some (.ref C) ∧ (OexC K C ∧ XfC K C ∧ PySem.W.findIn K (.ref C) f = some none) ∧ PySem.W.findIn K (.ref C) "__init__" = some (some (.ref fI)) ∧ PySem.W.typeIn K (.ref fI) = some (.type "function") ∧
    FnOk P w K mg base (L2.CX P w) 1 fI fd ["self", p] (spX1 C f) ∧ Binds K fd ["self", p] []
theorem XCls.xc {P : Program} {w : World} {K : PySem.W.Frag} {mg : Str → Option Value} {base : Heap} {Cn f : Str} (T : XCls P w K mg base Cn f) : XC P w K mg base Cn f :=
  let ⟨C, fI, fd, p, h1, ⟨h2, _⟩, h3, h4, h5, h6⟩ := T.ex
  ⟨C, fI, fd, p, h1, h2, h3, h4, h5, h6⟩
section
variable {X : Cx} {c : Ct} {W : WX} {elt tgE iter : Expr} {ifs : List Expr} {scope : Scope} {own : List (Str × Nat)} {pos : Pos} {tg : Tg} {it : IW} {u : TW} {w : EW}
theorem se_lcV (hc : X.calm = true) (hN : X.N.Nodup) (ok : BlkOk X.N X.env.scope scope own) (hi : SI X c W tgE iter it) (hv : ∀ i ∈ own.map (·.2), i ∉ c.pn) (ht : ∀ i ∈ tg.slots, i ∈ own.map (·.2))
    (hg : ∀ (s : Shared) (H : Hp) (C : Addr) (cl : List (Str × Addr)) (fp : List Addr), SG (X.blk s H scope (compEnvC scope cl C X.env) fp) tgE tg)
    (hu : ∀ (s : Shared) (H : Hp) (C : Addr) (cl : List (Str × Addr)) (fp : List Addr), STs (X.blk s H scope (compEnvC scope cl C X.env) fp) c W0 ifs u)
    (he : ∀ (s : Shared) (H : Hp) (C : Addr) (cl : List (Str × Addr)) (fp : List Addr), SE (X.blk s H scope (compEnvC scope cl C X.env) fp) c W0 elt w)
    (hs : ∀ x, foldedSetIterable iter X.env x = pure x := by intro _; rfl) : SE X c W (.ListComp elt [⟨tgE, iter, ifs, 0⟩] scope pos) (wLc tg it u w (own.map (·.2))) :=
  se_lc hc hN hi ok hv ht (hu X.s_0 X.H_0 0 [] []).mo (he X.s_0 X.H_0 0 [] []).mo hg hu he hs
theorem ss_setLcV {i : Nat} {y : Str} {py spos : Pos} (hip : i ∉ c.pn) (hc : X.calm = true) (hN : X.N.Nodup) (hy : X.N[i]? = some y) (hyl : X.env.scope.names.lookup y = some .local) (ok : BlkOk X.N X.env.scope scope own)
    (hi : SI X c W tgE iter it) (hv : ∀ i ∈ own.map (·.2), i ∉ c.pn) (ht : ∀ i ∈ tg.slots, i ∈ own.map (·.2))
    (hg : ∀ (s : Shared) (H : Hp) (C : Addr) (cl : List (Str × Addr)) (fp : List Addr), SG (X.blk s H scope (compEnvC scope cl C X.env) fp) tgE tg)
    (hu : ∀ (s : Shared) (H : Hp) (C : Addr) (cl : List (Str × Addr)) (fp : List Addr), STs (X.blk s H scope (compEnvC scope cl C X.env) fp) c W0 ifs u)
    (he : ∀ (s : Shared) (H : Hp) (C : Addr) (cl : List (Str × Addr)) (fp : List Addr), SE (X.blk s H scope (compEnvC scope cl C X.env) fp) c W0 elt w)
    (hsw : swapsWith (.ListComp elt [⟨tgE, iter, ifs, 0⟩] scope pos) (some (.Name y py)) spos.line X.env = pure true := by rfl)
    (hs : ∀ x, foldedSetIterable iter X.env x = pure x := by intro _; rfl) : SS X c W (.Assign [.Name y py] (.ListComp elt [⟨tgE, iter, ifs, 0⟩] scope pos) spos) (wSet i (wLc tg it u w (own.map (·.2)))) :=
  ss_setLc hip hc hN hy hyl hsw hi ok hv ht (hu X.s_0 X.H_0 0 [] []).mo (he X.s_0 X.H_0 0 [] []).mo hg hu he hs
end
end LV
namespace LV
open PySem PySem.Spec L2
end LV
namespace LV
open PySem PySem.Spec L2
open PySem.W (KeepsBut AllAlike Sortable dataKind SortsAt EachIs KeyedOut dataLe sortingHeap copyHeap sorted_of_sort keyH_end sortVals keyedOut_each)
open PyProof.Rows (seqObj ksk_rest ksk_tree ksk_end ksk_fold)
end LV
namespace LV
open PySem PySem.Spec L2
/-- a def that takes any number of arguments behind the first ones, by its promise -/
structure FnV (P : Program) (w : World) (K : PySem.W.Frag) (mg : Str → Option Value) (base : Heap) (k : Nat) (f : Addr) (sp : Sp) : Prop where
  run : ∀ (A : Around) (outer : List Env) (s : Shared) (H : Hp) (us : List Value) (vs : List V) (Q : VK) (E : XK), RoomG k A → Env0 P w K mg base A outer s H → Vals vs us → sp vs H Q E → codeAny (model P w) A (.call (.ref f) ⟨us, []⟩) (CR (L2.CX P w) outer P w H s Q E) s
theorem FnV.mono {P : Program} {w : World} {K : PySem.W.Frag} {mg : Str → Option Value} {base : Heap} {j k : Nat} {f : Addr} {sp : Sp} (F : FnV P w K mg base j f sp) (h : j ≤ k) : FnV P w K mg base k f sp := ⟨fun A outer s H us vs Q E hr => F.run A outer s H us vs Q E (hr.mono h)⟩
end LV
namespace LV
open PySem PySem.Spec L2
end LV
namespace LV
open PySem PySem.Spec L2
end LV
namespace LV
open PySem PySem.Spec L2
end LV
namespace LV
open PySem PySem.Spec PySem.W L2
section
variable {P : Program} {w : World} {K : PySem.W.Frag} {mg : Str → Option Value} {base h : Heap}
theorem dat_mk {x : Str} {st : Stmt} {ps : List Str} {f : Addr} {oc : Value} {od an : Option Addr} {osl : Array (Option Value)} {kV doc pm cdv ct : Value} (X : K.In h) (G : h.Ns mainGlobals mg) (a : PySem.W.nsIn K mainGlobals x = some (some (.ref f)))
    (l : K.lookup f = some ⟨oc, od, .func (PySem.W.fnOf x x (defArgs st) (defBody st) (defScope st) .none kV doc pm an cdv ct), osl⟩) (c : PySem.W.codeIn K cdv x = true) (k : PySem.W.keepIn K (.ref f) = true)
    (b : ∀ (kV doc pm : Value) (an : Option Addr) (cdv ct : Value) (us : List Value), us.length = ps.length → bindArgs (PySem.W.fnOf x x (defArgs st) (defBody st) (defScope st) .none kV doc pm an cdv ct) ⟨us, []⟩ = pure (ps.zip us)) :
    ∃ f fd, DefAt K mg x st ps f fd := ⟨f, _, fun_mk l c k, PySem.W.mg_of X G a, (fun_mk l c k).binds b⟩
theorem fnG_mk {x : Str} {st : Stmt} {f : Addr} {fd : FuncData} {N ps : List Str} {k : Nat} {S : FSpec} {b : SW} (pn : List Nat) (D : DefAt K mg x st ps f fd) (Sc : FnScope N ps (defScope st)) (kp : Keeps S pn ps.length N.length b)
    (hbody : ∀ (cdv : Value) (A : Around) (outer : List Env) (s : Shared) (H : Hp) (E : XK), RoomG k (A.deeper (PyProof.Rows.envOfC x (defScope st) s.heap.objs.size f cdv)) →
      ∀ (σ₀ : L2.St) (h₀ : Hp) (xc : Addr → Value → Option Addr → Prop) (hN : Hp), SSs (cxOf (L2.CX P w) P w K mg base N x (defScope st) f cdv A outer s H E) ⟨pn, σ₀, h₀, xc, hN⟩ (fun cls d _ H => E cls d H) (defBody st) b) :
    FnG P w K mg base (k + 1) f fd ps (toSp ⟨K, mg, w⟩ S) :=
  fn_lvG pn D.fn Sc kp fun cdv A outer s H E hr c hc => match c, hc with
    | ⟨_, σ₀, h₀, xc, hN⟩, rfl => hbody cdv A outer s H E hr σ₀ h₀ xc hN
/-- the law's own def, at the law's call -/
theorem law_at {st : Stmt} {x : Str} {k n : Nat} {fa : Addr} (hfa : mg "law" = some (.ref fa)) (D : ∃ f fd, DefAt K mg "law" st [x] f fd)
    (b : ∀ (kV doc pm : Value) (an : Option Addr) (cdv ct : Value) (us : List Value), us.length = [x].length → bindArgs (PySem.W.fnOf "law" "law" (defArgs st) (defBody st) (defScope st) .none kV doc pm an cdv ct) ⟨us, []⟩ = pure ([x].zip us))
    (F : ∀ base : Heap, ∀ f fd, DefAt K mg "law" st [x] f fd → FnG P w K mg base k f fd [x] (toSp ⟨K, mg, w⟩ (SLaw n))) :
    ∃ fd : FuncData, (∀ (s : Shared) (u : Value), BindsTo s fd ⟨[u], []⟩ [(x, u)]) ∧ ∀ base : Heap, K.In base → base.Ns mainGlobals mg → FnG P w K mg base k fa fd [x] (toSp ⟨K, mg, w⟩ (SLaw n)) := by
  obtain ⟨f, fd, D⟩ := D
  have e := hfa.symm.trans D.at_
  cases e
  refine ⟨fd, fun s u => ?_, fun base _ _ => F base _ _ D⟩
  obtain ⟨oc, od, kV, doc, pm, an, cdv, ct, osl, rfl, lk, hcd⟩ := D.fn.ex
  exact .of_eq (b _ _ _ _ _ _ [u] rfl)
end
end LV
namespace LV
open PySem PySem.Spec L2
section
variable {i j : Int} {Q : Rv → Prop} {p : Int → Int → Bool} {f : List Int → List Int → Bool} {ns ms : List Int} {b : Bool} {s : Str}
theorem map_int_inj : ∀ {ns ms : List Int}, ns.map D.int = ms.map D.int → ns = ms
  | [], [], _ => rfl
  | n :: ns, m :: ms, h => by
    rw [List.map_cons, List.map_cons] at h
    injection h with h1 h2
    injection h1 with h1
    rw [h1, map_int_inj h2]
  | [], _ :: _, h => nomatch h
  | _ :: _, [], h => nomatch h
theorem gOrd_ii : gOrd p f (.int i) (.int j) Q = Q (.fz (.bl (p i j))) := propext ⟨fun h => by
  rcases h with ⟨i', j', e1, e2, q⟩ | ⟨_, _, e1, _⟩
  · injection e1 with e1; injection e2 with e2; subst e1 e2; exact q
  · (cases e1), fun q => .inl ⟨i, j, rfl, rfl, q⟩⟩
theorem gOrd_tt : gOrd p f (.tup (ns.map D.int)) (.tup (ms.map D.int)) Q = Q (.fz (.bl (f ns ms))) := propext ⟨fun h => by
  rcases h with ⟨i', j', e1, e2, q⟩ | ⟨a, b, e1, e2, q⟩
  · cases e1
  · injection e1 with e1; injection e2 with e2
    rw [map_int_inj e1, map_int_inj e2]; exact q, fun q => .inr ⟨ns, ms, rfl, rfl, q⟩⟩
theorem gInt_ii {C : Int → Int → Prop} {g : Int → Int → Int} : gInt C g (.int i) (.int j) Q = (C i j ∧ Q (.fz (.int (g i j)))) := propext ⟨fun ⟨i', j', e1, e2, c, q⟩ => by
  injection e1 with e1; injection e2 with e2; subst e1 e2; exact ⟨c, q⟩, fun ⟨c, q⟩ => ⟨i, j, rfl, rfl, c, q⟩⟩
theorem gInt1_i : gInt1 [.int i] Q = Q (.fz (.int i)) := propext ⟨fun h => by
  rcases h with ⟨i', e, q⟩ | ⟨k, e, q⟩
  · injection e with e _; injection e with e; subst e; exact q
  · injection e with e _; (cases e), fun q => .inl ⟨i, rfl, q⟩⟩
theorem gAbs_i : gAbs [.int i] Q = Q (.fz (.int (if i < 0 then -i else i))) := propext ⟨fun ⟨i', e, q⟩ => by
  injection e with e _; injection e with e; subst e; exact q, fun q => ⟨i, rfl, q⟩⟩
theorem gMax2_ii : gMax2 [.int i, .int j] Q = Q (.fz (.int (if j > i then j else i))) := propext ⟨fun ⟨i', j', e, q⟩ => by
  injection e with e1 e; injection e with e2 _; injection e1 with e1; injection e2 with e2; subst e1 e2; exact q, fun q => ⟨i, j, rfl, q⟩⟩
theorem gMin2_ii : gMin2 [.int i, .int j] Q = Q (.fz (.int (if j < i then j else i))) := propext ⟨fun ⟨i', j', e, q⟩ => by
  injection e with e1 e; injection e with e2 _; injection e1 with e1; injection e2 with e2; subst e1 e2; exact q, fun q => ⟨i, j, rfl, q⟩⟩
theorem gLt_ii : gLt (.int i) (.int j) Q = Q (.fz (.bl (decide (i < j)))) := gOrd_ii
theorem gLe_ii : gLe (.int i) (.int j) Q = Q (.fz (.bl (decide (i ≤ j)))) := gOrd_ii
theorem gGt_ii : gGt (.int i) (.int j) Q = Q (.fz (.bl (decide (j < i)))) := gOrd_ii
theorem gGe_ii : gGe (.int i) (.int j) Q = Q (.fz (.bl (decide (j ≤ i)))) := gOrd_ii
theorem gLt_tt : gLt (rowD ns) (rowD ms) Q = Q (.fz (.bl (ltI ns ms))) := gOrd_tt
theorem gLe_tt : gLe (rowD ns) (rowD ms) Q = Q (.fz (.bl (leI ns ms))) := gOrd_tt
theorem gGt_tt : gGt (rowD ns) (rowD ms) Q = Q (.fz (.bl (ltI ms ns))) := gOrd_tt
theorem gGe_tt : gGe (rowD ns) (rowD ms) Q = Q (.fz (.bl (leI ms ns))) := gOrd_tt
theorem gSub_ii : gSub (.int i) (.int j) Q = Q (.fz (.int (i - j))) := by unfold gSub; rw [gInt_ii]; exact propext ⟨fun h => h.2, fun h => ⟨True.intro, h⟩⟩
theorem gMod_ii : gMod (.int i) (.int j) Q = (j ≠ 0 ∧ Q (.fz (.int (i.fmod j)))) := gInt_ii
theorem gDiv_ii : gDiv (.int i) (.int j) Q = (CDvA i j ∧ Q (.fz (.int (i.fdiv j)))) := gInt_ii
theorem gPow_ii : gPow (.int i) (.int j) Q = (CPow i j ∧ Q (.fz (.int (i ^ j.toNat)))) := gInt_ii
theorem gAdd_ii : gAdd (.int i) (.int j) Q = Q (.fz (.int (i + j))) := rfl
theorem gAdd_ss {s t : Str} : gAdd (.str s) (.str t) Q = (s.length + t.length ≤ sizeLine ∧ Q (.fz (.str (s ++ t)))) := rfl
theorem gAdd_tt {xs ys : List D} : gAdd (.tup xs) (.tup ys) Q = (xs.length + ys.length ≤ sizeLine ∧ Q (.fz (.tup (xs ++ ys)))) := rfl
theorem gAdd_ll {xs ys : List D} : gAdd (.lst xs) (.lst ys) Q = (xs.length + ys.length ≤ sizeLine ∧ Q (.ow (.lst (xs ++ ys)))) := rfl
theorem gIx_t {xs : List D} : gIx (.tup xs) (.int i) Q = ∃ d, L2.atI xs i = some d ∧ Q (.fz d) := rfl
theorem gIx_l {xs : List D} : gIx (.lst xs) (.int i) Q = ∃ d, L2.atI xs i = some d ∧ Q (.fz d) := rfl
theorem gIx_s {xs : List Int} : gIx (.scr xs) (.int i) Q = ∃ d, L2.atI xs i = some d ∧ Q (.fz (.int d)) := rfl
theorem gIx_x {z : Str} : gIx (.str z) (.int i) Q = (z.length ≤ sizeLine ∧ ∃ c, L2.atI z.cps.toList i = some c ∧ Q (.fz (.str ⟨#[c]⟩))) := rfl
theorem okE_int : (D.int i).okE = true := rfl
theorem okE_bl : (D.bl b).okE = true := rfl
theorem okE_non : D.non.okE = true := rfl
theorem eqv_ii : eqvD (.int i) (.int j) = (i == j) := rfl
theorem eqv_ss {t : Str} : eqvD (.str s) (.str t) = (s == t) := rfl
end
theorem at_0 {α : Type} {a : α} {l : List α} : L2.atI (a :: l) 0 = some a := by
  unfold L2.atI L2.ixN
  rw [if_pos (Int.le_refl 0), if_pos (by rw [List.length_cons]; omega)]; rfl
theorem at_1 {α : Type} {a b : α} {l : List α} : L2.atI (a :: b :: l) 1 = some b := by
  unfold L2.atI L2.ixN
  rw [if_pos (by decide), if_pos (by rw [List.length_cons, List.length_cons]; omega)]; rfl
theorem at_2 {α : Type} {a b c : α} {l : List α} : L2.atI (a :: b :: c :: l) 2 = some c := by
  unfold L2.atI L2.ixN
  rw [if_pos (by decide), if_pos (by rw [List.length_cons, List.length_cons, List.length_cons]; omega)]; rfl
theorem at_3 {α : Type} {a b c d : α} {l : List α} : L2.atI (a :: b :: c :: d :: l) 3 = some d := by
  unfold L2.atI L2.ixN
  rw [if_pos (by decide), if_pos (by rw [List.length_cons, List.length_cons, List.length_cons, List.length_cons]; omega)]; rfl
theorem ix4_0 : ixN 4 0 = some 0 := rfl
theorem ix4_1 : ixN 4 1 = some 1 := rfl
theorem ix4_2 : ixN 4 2 = some 2 := rfl
theorem ix4_3 : ixN 4 3 = some 3 := rfl
/-- a place inside -/
theorem at_in {α : Type} {l : List α} {i : Int} (h0 : 0 ≤ i) (h : i < l.length) : ∃ x, L2.atI l i = some x ∧ x ∈ l := by
  unfold L2.atI L2.ixN
  rw [if_pos h0, if_pos h]
  exact ⟨l[i.toNat]'(by omega), List.getElem?_eq_getElem (by omega), List.getElem_mem _⟩
theorem iteB {b : Bool} {X Y : Prop} {inst : Decidable (b = true)} (h1 : b = true → X) (h2 : b = false → Y) : @ite Prop (b = true) inst X Y := by
  cases b with
  | true => rw [if_pos rfl]; exact h1 rfl
  | false => rw [if_neg Bool.false_ne_true]; exact h2 rfl
theorem fit1 {pn : List Nat} {d : D} : ArgsFit pn 1 [.fz d] := ⟨rfl, fun j o h => by rcases j with _ | j <;> simp at h, fun j a C ks vs h => by rcases j with _ | j <;> simp at h⟩
theorem fit2 {pn : List Nat} {d d' : D} : ArgsFit pn 2 [.fz d, .fz d'] := ⟨rfl, fun j o h => by rcases j with _ | _ | j <;> simp at h, fun j a C ks vs h => by rcases j with _ | _ | j <;> simp at h⟩
theorem fitO2 {o : O} {d : D} : ArgsFit [0] 2 [.ow o, .fz d] := ⟨rfl, fun j o h => by rcases j with _ | _ | j <;> simp at h ⊢, fun j a C ks vs h => by rcases j with _ | _ | j <;> simp at h⟩
end LV
namespace LV
open PySem PySem.Spec L2
/-- one statement at a time: what follows it is a name -/
theorem seq_k {s1 s2 : SW} {K : Ks} {env : En} (h : ∀ K1 : Ks, (∀ e, s2 K e → K1.nx e) → K1.rt = K.rt → K1.bk = K.bk → K1.ct = K.ct → K1.ex = K.ex → s1 K1 env) : wSeq s1 s2 K env :=
  h { K with nx := fun e => s2 K e } (fun _ q => q) rfl rfl rfl rfl
end LV
open PySem PySem.Spec L2 LV
local macro_rules | `(tactic| walk_at "lv") => `(tactic| simp only [wSeq, wSkip, wRet, wRetN, wIf, wSet, wSetIx, wExp, wApp, wFor, wBrk, wCnt, wRev, wAnd, wOr, wNot, wIte, wtNot, wtAnd, wtOr, wB, wTru, wVar, wC, wOp2, wFz, wIsi, wTup, wLst, wNil, wCons, wBlt, wFrz, wNeg, wCall, wSl, wNoP, wPt, wChain, wIt, itR, itemsD, wRng1, wRng2, wZip, wRaise1,
  retR, setR, Rv.frz, look, lookL, frz1, frzL, valOf, valL, slotsOf, putL, startE, O.d, bindT, bindS, loopW, List.map_cons, List.map_nil, List.length_cons, List.length_nil, List.replicate, List.cons_append, List.nil_append, List.getElem?_cons_zero, List.getElem?_cons_succ, List.set_cons_zero, List.set_cons_succ, List.set_nil, List.append_nil,
  gLt_ii, gLe_ii, gGt_ii, gGe_ii, gLt_tt, gLe_tt, gGt_tt, gGe_tt, gAdd_ii, gAdd_ss, gAdd_tt, gAdd_ll, gSub_ii, gMod_ii, gDiv_ii, gPow_ii, gMulT_ii, gMulT_li, gIx_t, gIx_l, gIx_s, gIx_x, gLen, gInt1_i, gAbs_i, gMax2_ii, gMin2_ii, gList, gTuple, gEq, gNe, gIn, gNotIn, gIsN, gIsNotN, okE_int, okE_bl, okE_non, eqv_ii, eqv_ss, truD, isN, yesK, gSl, at_0, at_1, at_2, at_3, ix4_0, ix4_1, ix4_2, ix4_3,
  Nat.zero_add, Nat.sub_self, Nat.reduceAdd, Nat.reduceSub, Nat.add_one_sub_one, Option.some.injEq, Prod.mk.injEq, D.int.injEq, D.bl.injEq, D.tup.injEq, D.lst.injEq, Rv.fz.injEq, Rv.sl.injEq, exists_eq_left, exists_eq_left', exists_and_left, and_assoc, exists_eq, exists_eq', Option.getD_some, Option.getD_some, true_and, and_true, implies_true, if_true, if_false, Bool.false_eq_true, reduceCtorEq, ite_true, ite_false, ne_eq, not_false_eq_true, not_true_eq_false,
  KsFn, finA, List.mem_nil_iff, List.not_mem_nil, List.mem_cons, backOk, List.cons.injEq, Val.fz.injEq, Val.ow.injEq, O.lst.injEq, or_false, or_true, false_or, exists_false, false_and, and_false, List.nodup_nil, List.nodup_cons, Bool.not_true, Bool.not_false])
local macro_rules | `(tactic| simp_all! only [$ts,*]) => `(tactic| simp only [$ts,*, wSeq, wSkip, wRet, wRetN, wIf, wSet, wSetIx, wExp, wApp, wFor, wBrk, wCnt, wRev, wAnd, wOr, wNot, wIte, wtNot, wtAnd, wtOr, wB, wTru, wVar, wC, wOp2, wFz, wIsi, wTup, wLst, wNil, wCons, wBlt, wFrz, wNeg, wCall, wSl, wNoP, wPt, wChain, wIt, itR, itemsD, wRng1, wRng2, wZip, wRaise1,
  retR, setR, Rv.frz, look, lookL, frz1, frzL, valOf, valL, slotsOf, putL, startE, O.d, bindT, bindS, loopW, List.map_cons, List.map_nil, List.length_cons, List.length_nil, List.replicate, List.cons_append, List.nil_append, List.getElem?_cons_zero, List.getElem?_cons_succ, List.set_cons_zero, List.set_cons_succ, List.set_nil, List.append_nil,
  gLt_ii, gLe_ii, gGt_ii, gGe_ii, gLt_tt, gLe_tt, gGt_tt, gGe_tt, gAdd_ii, gAdd_ss, gAdd_tt, gAdd_ll, gSub_ii, gMod_ii, gDiv_ii, gPow_ii, gMulT_ii, gMulT_li, gIx_t, gIx_l, gIx_s, gIx_x, gLen, gInt1_i, gAbs_i, gMax2_ii, gMin2_ii, gList, gTuple, gEq, gNe, gIn, gNotIn, gIsN, gIsNotN, okE_int, okE_bl, okE_non, eqv_ii, eqv_ss, truD, isN, yesK, gSl, at_0, at_1, at_2, at_3, ix4_0, ix4_1, ix4_2, ix4_3,
  Nat.zero_add, Nat.sub_self, Nat.reduceAdd, Nat.reduceSub, Nat.add_one_sub_one, Option.some.injEq, Prod.mk.injEq, D.int.injEq, D.bl.injEq, D.tup.injEq, D.lst.injEq, Rv.fz.injEq, Rv.sl.injEq, exists_eq_left, exists_eq_left', exists_and_left, and_assoc, exists_eq, exists_eq', Option.getD_some, Option.getD_some, true_and, and_true, implies_true, if_true, if_false, Bool.false_eq_true, reduceCtorEq, ite_true, ite_false, ne_eq, not_false_eq_true, not_true_eq_false,
  KsFn, finA, List.mem_nil_iff, List.not_mem_nil, List.mem_cons, backOk, List.cons.injEq, Val.fz.injEq, Val.ow.injEq, O.lst.injEq, or_false, or_true, false_or, exists_false, false_and, and_false, List.nodup_nil, List.nodup_cons, Bool.not_true, Bool.not_false])
namespace LV
open PySem PySem.Spec L2
end LV
namespace LV
open PySem PySem.Spec L2
end LV
namespace LV
open PySem PySem.Spec PyProof.Rows L2
abbrev ClA := Value × Nat × (Addr → Value → Option Addr → TS)
abbrev ClM := (Str → Option Bool) × Nat × SW
def exM (K : Ks) : List ClM → XW
  | [] => K.ex
  | (ct, i, ws) :: r => fun x e => noEx e = true ∧ ∃ b, ct x.C = some b ∧ if b = true then ∀ a, ws (KsSu i K) (e.set i (some (.ex a x.C x.ks x.vs))) else exM K r x e
abbrev tsOf (X : Cx) (c : Ct) (ws : SW) : Addr → Value → Option Addr → TS := fun a cls d => SRd (mdX X) { c with xc := fun a' c' d' => a' = a ∧ c' = cls ∧ d' = d } W0 ws
inductive HdL (X : Cx) (c : Ct) : List ExceptHandler → List ClM → List ClA → Prop
  | nil : HdL X c [] [] []
  | cons {x n : Str} {cv : Value} {i : Nat} {ct : Str → Option Bool} {ws : SW} {b₀ : Stmt} {su : List Stmt} {np pp : Pos} {hds : List ExceptHandler} {hs : List ClM} {l : List ClA} (hi : X.N[i]? = some n) (hln : X.env.kindOf n = some .local) (hc : Names X x cv) (hip : i ∉ c.pn) (hca : Catches X.K X.mg cv ct) (ms : MonoS ws)
      (hsu : ∀ (a : Addr) (oe : Obj) (cls : Value) (d : Option Addr) (pn : List (Addr × Obj)), Zc cls d oe → (∃ vs, oe.data = .fields vs) → SSs (X.suite a ((a, oe) :: pn)) { c with xc := fun a' c' d' => a' = a ∧ c' = cls ∧ d' = d } W0 (b₀ :: su) ws) (r : HdL X c hds hs l) :
      HdL X c (.ExceptHandler (some (.Name x np)) (some n) (b₀ :: su) pp :: hds) ((ct, i, ws) :: hs) ((cv, i, tsOf X c ws) :: l)
section
variable {X : Cx} {c : Ct} {W : WX} {body : List Stmt} {h₀ : ExceptHandler} {hds : List ExceptHandler} {hs : List ClM} {l : List ClA} {pos : Pos} {wb : SW}
theorem HdL.mono {hds : List ExceptHandler} (h : HdL X c hds hs l) {K K' : Ks} (k : KLe K K') : ∀ x e, exM K hs x e → exM K' hs x e := by
  induction h with
  | nil => exact k.ex
  | @cons x n cv i ct ws b₀ su np pp hds hs l hi hln hc hip hca ms hsu r ih =>
    intro x e ⟨n, b, h, z⟩
    refine ⟨n, b, h, ?_⟩
    cases b with
    | true =>
      rw [if_pos rfl] at z ⊢
      exact fun a => ms.mo (K := KsSu i K) ⟨fun _ ⟨a, b⟩ => ⟨a, k.nx _ b⟩, fun _ _ ⟨a, b⟩ => ⟨a, k.rt _ _ b⟩, fun _ ⟨a, b⟩ => ⟨a, k.bk _ b⟩, fun _ ⟨a, b⟩ => ⟨a, k.ct _ b⟩, fun _ _ z => z⟩ (z a)
    | false =>
      rw [if_neg Bool.false_ne_true] at z ⊢
      exact ih _ _ z
end
end LV
namespace LV
open PySem PySem.Spec L2
open PySem.W (KeepsBut AllAlike Sortable dataKind SortsAt EachIs KeyedOut dataLe sortingHeap copyHeap sorted_of_sort keyH_end sortVals keyedOut_each)
open PyProof.Rows (seqObj ksk_rest ksk_tree ksk_end ksk_fold)
end LV
namespace LV
open PySem PySem.Spec L2
section
variable {M : Md} {F H F' H' : Hp} {vs : List V} {as : List Val} {v : V} {a : Val}
theorem Rel.tail {H0 : Hp} (R : Rel M (ctN H0) F H (sV (v :: vs)) (eV (a :: as))) : Rel M (ctN H0) F H (sV vs) (eV as) := by
  have g : ∀ {k : Nat} {b : Val}, (eV as)[k]? = some (some b) → (eV (a :: as))[k + 1]? = some (some b) := fun {k b} h => h
  have gs : ∀ {k : Nat} {u : V}, (sV (v :: vs))[k + 1]? = some (some u) → (sV vs)[k]? = some (some u) := fun {k u} h => h
  refine ⟨R.sub, by have := R.len; unfold eV sV at this ⊢; simpa using this, fun k d h => ?_, fun k o h => ?_, fun k b C ks ds h => ?_, fun j k o u p h1 h2 h3 h4 => ?_, fun _ h => (nomatch h), fun _ _ h => (nomatch h), fun _ _ _ _ _ _ => rfl, fun k o b h hb => R.frN (k + 1) o b (g h) hb, R.oldN⟩
  · obtain ⟨u, h1, h2⟩ := R.fz (k + 1) d (g h); exact ⟨u, gs h1, h2⟩
  · obtain ⟨p, h1, h2⟩ := R.ow (k + 1) o (g h); exact ⟨p, gs h1, h2⟩
  · obtain ⟨_, _, _, z, _⟩ := R.ex (k + 1) b C ks ds (g h); exact z.elim
  · have := R.sep (j + 1) (k + 1) o u p (g h1) (g h2) h3 h4; omega
end
end LV
namespace LV
open PySem PySem.Spec L2
end LV
namespace LV
open PySem PySem.Spec L2
section
variable {X : Cx} {c : Ct} {W : WX} {a b e : Expr} {es : List Expr} {w wa wb : EW} {wl : AW} {pos p p2 : Pos} {m C x : Str} {k j : Nat} {S : FSpec} {tbl : List (Str × FSpec)}
/-- an own method's run within an operator: what stands ready -/
structure OpRdy (X : Cx) (W : WX) (m : Str) (σ : L2.St) (j : Nat) (q : Addr) (vs : List V) (H : Hp) (Q : VK) : Prop where
  ex : ∃ cc dx fv f fd ps k S, H q = some (.ins cc dx fv) ∧ Cls X.K cc ∧ Meth X.K cc m f ∧ k ≤ j ∧ FnG X.prog X.w X.K X.mg X.base k f fd ps (toSp (mdX X) S) ∧ Binds X.K fd ps [] ∧ toSp (mdX X) S (.ref q :: vs) H Q (WE W σ)
theorem OpRdy.run {σ : L2.St} {q : Addr} {vs : List V} {us : List Value} {H : Hp} {Q : VK} {pins : List (Addr × Obj)} {s : Shared} (O : OpRdy X W m σ j q vs H Q) (tk : Takes X W) (hr : RoomG j X.A) (I : L2.Inv X pins σ H s) (r : Vals vs us) :
    ∃ cc f ox od, PySem.W.InstAt s.heap q ox cc (some od) ∧ PySem.W.findIn X.K (.ref cc) m = some (some (.ref f)) ∧ PySem.W.isFn X.K (.ref f) = true ∧ wpAny (model X.prog X.w) X.A (call (.ref f) (.ref q :: us)) (EP X pins σ Q) X.xe s := by
  obtain ⟨cc, dx, fv, f, fd, ps, k, S, h1, cl, hm, hk, Fn, hb, sp⟩ := O.ex
  obtain ⟨mA, J, _⟩ := ins_get I.hok h1
  obtain ⟨od, J, _⟩ := J.look
  exact ⟨cc, f, _, od, J, hm.at_, hm.fn, run_fnG (us := .ref q :: us) (vs := .ref q :: vs) (E := WE W) Fn (hr.mono hk) hb (passAt tk σ) I (.cons rfl r) sp⟩
end
end LV
namespace LV
open PySem PySem.Spec L2
end LV
namespace LV
open PySem PySem.Spec PySem.W L2
end LV
set_option maxHeartbeats 400000
namespace LV
open PySem PySem.Spec PyProof.Rows L2
def wPin (i : Nat) (w : EW) : EW := fun env Q E => (∃ o, env[i]? = some (some (.ow o))) ∧ w env Q E
theorem Mono.pin {i : Nat} {w : EW} (m : Mono w) : Mono (wPin i w) := ⟨fun hQ hE ⟨a, q⟩ => ⟨a, m.mo hQ hE q⟩⟩
end LV
namespace LV
open PySem PySem.Spec L2
end LV
set_option maxHeartbeats 1000000
namespace LV
open PySem PySem.Spec L2
end LV
namespace LV
open PySem PySem.Spec PySem.W L2
end LV
namespace LV
open PySem PySem.Spec L2
end LV
set_option maxHeartbeats 400000
namespace LV
open PySem PySem.Spec L2
end LV
namespace LV
open PySem PySem.Spec L2
end LV
namespace LV
open PySem PySem.Spec L2
end LV
set_option maxHeartbeats 1000000
namespace LVT
open PySem PySem.Spec PyProof.Rows L2
/-- the text of an entry -/
def txOf (q : Int × Value) : Str := match q.2 with
  | .str y _ => y
  | _ => Str.empty
def TxE (w : World) (q : Int × Value) : Prop := ∃ y tk, q.2 = Value.str y tk ∧ q.1 = hashStr w y
/-- the set at a holds the texts that M lists -/
structure SetX (w : World) (h : Heap) (a : Addr) (M : List Str) : Prop where
  ex : ∃ ob rows ep tb, h.get? a = some ob ∧ ob.ExactSet ∧ ob.data = .set rows ep tb ∧ (∀ q ∈ rows.toList, TxE w q) ∧ (rows.toList.map txOf).Nodup ∧ (∀ y, y ∈ M ↔ y ∈ rows.toList.map txOf) ∧
    rows.size < scanBound ∧ tb.fits rows.size = true ∧ rows.size ≤ M.length ∧ Ris tb.place.toList ∧ (w.params.followText "set-order" = true ∨ tb.led = true)
section
variable {P : Program} {w : World} {h h' : Heap} {a : Addr} {M M' : List Str}
theorem SetX.stay (R : SetX w h a M) (k : ∀ ob, h.get? a = some ob → h'.get? a = some ob) : SetX w h' a M := by
  obtain ⟨ob, rows, ep, tb, e, r⟩ := R.ex
  exact ⟨ob, rows, ep, tb, k ob e, r⟩
end
end LVT
namespace LV
open PySem PySem.Spec L2
end LV
namespace LV
open PySem PySem.Spec L2
end LV
set_option maxHeartbeats 400000
namespace LV
open PySem PySem.Spec L2
end LV
set_option maxHeartbeats 1000000
namespace LV
open PySem PySem.Spec PySem.W L2
end LV
namespace LV
open PySem PySem.Spec PySem.W L2
end LV
namespace LV
open PySem PySem.Spec L2
end LV
namespace LV
open PySem PySem.Spec L2
end LV
namespace LV
open PySem PySem.Spec L2
def wPar (i j : Nat) (wl : AW) : SW := fun K env => wl env (fun rs e => ∃ d1 d2 e2, frzL e rs = some ([d1, d2], e2) ∧ K.nx ((e2.set i (some (.fz d1))).set j (some (.fz d2)))) K.ex
section
variable {X : Cx} {c : Ct} {W : WX} {a b : Expr} {wl : AW} {i j : Nat} {x y : Str} {px py pt pt2 pos : Pos} {kt k2 : Nat}
theorem MonoS.par (m : MonoA wl) : MonoS (wPar i j wl) := ⟨fun k h => m.mo (fun _ _ ⟨d1, d2, e2, f, z⟩ => ⟨d1, d2, e2, f, k.nx _ z⟩) (fun _ _ z => k.ex _ _ z) h⟩
end
end LV
namespace LV
open PySem PySem.Spec L2
end LV
namespace LV
open PySem PySem.Spec L2
end LV
namespace LV
open PySem PySem.Spec L2
end LV
namespace LV
open PySem PySem.Spec PySem.W PyProof.Rows L2
end LV
namespace LV
open PySem PySem.Spec L2
def Ct.cut (c : Ct) (n : Nat) : Ct := { c with pn := c.pn.filter fun i => decide (i < n) }
end LV
namespace LV
open PySem PySem.Spec L2
end LV
set_option maxHeartbeats 400000
namespace LV
open PySem PySem.Spec PyProof.Rows L2
def wPinS (i : Nat) (s : SW) : SW := fun K env => (∃ o, env[i]? = some (some (.ow o))) ∧ s K env
theorem MonoS.pin {i : Nat} {s : SW} (m : MonoS s) : MonoS (wPinS i s) := ⟨fun k ⟨a, q⟩ => ⟨a, m.mo k q⟩⟩
end LV
set_option maxHeartbeats 1000000
namespace LV
open PySem PySem.Spec PyProof.Rows L2
end LV
namespace LV
open PySem PySem.Spec L2
end LV
namespace LV
open PySem PySem.Spec L2
end LV
set_option maxHeartbeats 400000
namespace LV
open PySem PySem.Spec L2
end LV
set_option maxHeartbeats 1000000
namespace LV
open PySem PySem.Spec PySem.W L2
end LV
namespace LV
open PySem PySem.Spec L2
end LV
set_option maxHeartbeats 400000
namespace LV
open PySem PySem.Spec L2
end LV
set_option maxHeartbeats 4000000
namespace LV
open PySem PySem.Spec PySem.W L2
end LV
set_option maxHeartbeats 2000000
namespace LV
open PySem PySem.Spec PySem.W L2
end LV
set_option maxHeartbeats 1000000
namespace LV
open PySem PySem.Spec L2
theorem op_mulX {X : Cx} : OpR X (binaryOp .Mult) (fun x y H Q => ∃ s k, x = .str s ∧ y = .int k ∧ MulOk s k ∧ Q (.str (Txt.mul s k)) H) := by
  intro pins s σ H x y v u Q I rx ry h
  obtain ⟨i, j, rfl, rfl, hz, q⟩ := h
  obtain ⟨t, rfl⟩ := rx
  obtain ⟨t', rfl⟩ := ry
  exact SB.mul hz (fun t' tk => ⟨.str (Txt.mul i j), H, I.tok _, ⟨_, rfl⟩, q⟩)
end LV
set_option maxHeartbeats 400000
namespace LV
open PySem PySem.Spec L2
end LV
namespace LV
open PySem PySem.Spec L2
def NI.pt : NI → D
  | .d x => x
  | .l q _ => .ptr q
  | .t q _ _ => .ptr q
section
variable {M : Md} {c : Ct} {F H F' H' : Hp} {σ : St} {env : En}
theorem NRepL.ptr : ∀ {vs : List V} {xs : List NI}, NRepL M F H vs xs → RepL M F vs (xs.map NI.pt)
  | _, _, .nil => .nil
  | _, _, .d h tl => .cons h (NRepL.ptr tl)
  | _, _, .l _ _ _ tl => .cons .ptr (NRepL.ptr tl)
  | _, _, .t _ _ tl => .cons .ptr (NRepL.ptr tl)
theorem NRepL.getD : ∀ {vs : List V} {xs : List NI} {k : Nat} {y : D}, NRepL M F H vs xs → xs[k]? = some (.d y) → ∃ v, vs[k]? = some v ∧ Rep M F v y
  | _, _, k, y, .nil, h => by simp at h
  | _, _, 0, y, .d r tl, h => by simp at h; subst h; exact ⟨_, rfl, r⟩
  | _, _, 0, y, .l f hh r tl, h => by simp at h
  | _, _, 0, y, .t f hh tl, h => by simp at h
  | _, _, k + 1, y, .d r tl, h => NRepL.getD (k := k) tl (by simpa using h)
  | _, _, k + 1, y, .l f hh r tl, h => NRepL.getD (k := k) tl (by simpa using h)
  | _, _, k + 1, y, .t f hh tl, h => NRepL.getD (k := k) tl (by simpa using h)
end
section
variable {X : Cx} {c : Ct} {W : WX} {e : Expr} {w : EW} {pos : Pos} {es : List Expr}
def wIxN (i k : Nat) : EW := fun env Q _ => ∃ xs d, env[i]? = some (some (.ow (.nst xs))) ∧ xs[k]? = some (.d d) ∧ Q (.fz d) env
theorem Mono.ixN {i k : Nat} : Mono (wIxN i k) := ⟨fun hQ _ ⟨xs, d, a, b, q⟩ => ⟨xs, d, a, b, hQ _ _ q⟩⟩
abbrev NAW := En → (List NI → En → Prop) → XW → Prop
structure MonoN (w : NAW) : Prop where
  mo : ∀ {env : En} {Q Q' : List NI → En → Prop} {E E' : XW}, (∀ r e, Q r e → Q' r e) → (∀ x e, E x e → E' x e) → w env Q E → w env Q' E'
variable {wl : NAW}
def wNst (wl : NAW) : EW := fun env Q E => wl env (fun xs e => xs.length ≤ sizeLine ∧ Q (.ow (.nst xs)) e) E
theorem Mono.nst (m : MonoN wl) : Mono (wNst wl) := ⟨fun hQ hE h => m.mo (fun xs e ⟨z, q⟩ => ⟨z, hQ _ _ q⟩) hE h⟩
end
end LV
namespace LV
open PySem PySem.Spec L2
end LV
set_option maxHeartbeats 1000000
namespace LV
open PySem PySem.Spec L2
/-- the message's parts fit -/
def okMsg (c1 c2 c3 s t : Str) : Prop := (Str.empty ++ c1).length ≤ sizeLine ∧ (Str.empty ++ c1 ++ s).length ≤ sizeLine ∧ (Str.empty ++ c1 ++ s ++ c2).length ≤ sizeLine ∧ (Str.empty ++ c1 ++ s ++ c2 ++ t).length ≤ sizeLine ∧ (Str.empty ++ c1 ++ s ++ c2 ++ t ++ c3).length ≤ sizeLine
def spX2 (C : Addr) (f g c1 c2 c3 : Str) : Sp := fun vs H Q _ => ∃ (a : Addr) (s : Str) (i : Int), vs = [.ref a, .str s, .int i] ∧ H a = some (exo a C none) ∧ s.length ≤ sizeLine ∧ i.natAbs.log2 < 1920 ∧ okMsg c1 c2 c3 s (toString i) ∧
  ∀ d, H d = none → d ≠ a → Q .non (upd (upd H d (exd d [(g, .int i), (f, .str s)])) a (exo a C (some d)))
structure XC2 (P : Program) (w : World) (K : PySem.W.Frag) (mg : Str → Option Value) (base : Heap) (Cn f g c1 c2 c3 : Str) : Prop where
  ex : ∃ (C fI : Addr) (fd : FuncData) (p q : Str), mg Cn = some (.ref C) ∧ OexC K C ∧ PySem.W.findIn K (.ref C) "__init__" = some (some (.ref fI)) ∧ PySem.W.typeIn K (.ref fI) = some (.type "function") ∧
    FnOk P w K mg base (L2.CX P w) 1 fI fd ["self", p, q] (spX2 C f g c1 c2 c3) ∧ Binds K fd ["self", p, q] []
end LV
namespace LV
open PySem PySem.Spec L2
def okMsg1 (c1 c2 s : Str) : Prop := (Str.empty ++ c1).length ≤ sizeLine ∧ (Str.empty ++ c1 ++ s).length ≤ sizeLine ∧ (Str.empty ++ c1 ++ s ++ c2).length ≤ sizeLine
def spX1F (C : Addr) (f c1 c2 : Str) : Sp := fun vs H Q _ => ∃ (a : Addr) (s : Str), vs = [.ref a, .str s] ∧ H a = some (exo a C none) ∧ s.length ≤ sizeLine ∧ okMsg1 c1 c2 s ∧
  ∀ d, H d = none → d ≠ a → Q .non (upd (upd H d (exd d [(f, .str s)])) a (exo a C (some d)))
structure XC1F (P : Program) (w : World) (K : PySem.W.Frag) (mg : Str → Option Value) (base : Heap) (Cn f c1 c2 : Str) : Prop where
  ex : ∃ (C fI : Addr) (fd : FuncData) (p : Str), mg Cn = some (.ref C) ∧ OexC K C ∧ PySem.W.findIn K (.ref C) "__init__" = some (some (.ref fI)) ∧ PySem.W.typeIn K (.ref fI) = some (.type "function") ∧
    FnOk P w K mg base (L2.CX P w) 1 fI fd ["self", p] (spX1F C f c1 c2) ∧ Binds K fd ["self", p] []
end LV
namespace LV
open PySem PySem.Spec PySem.W L2
structure XCls2 (P : Program) (w : World) (K : PySem.W.Frag) (mg : Str → Option Value) (base : Heap) (Cn f g c1 c2 c3 : Str) : Prop where
  ex : ∃ (C fI : Addr) (fd : FuncData) (p q : Str), mg Cn = some (.ref C) ∧ (OexC K C ∧ XfC K C ∧ PySem.W.findIn K (.ref C) f = some none ∧ PySem.W.findIn K (.ref C) g = some none) ∧ PySem.W.findIn K (.ref C) "__init__" = some (some (.ref fI)) ∧ PySem.W.typeIn K (.ref fI) = some (.type "function") ∧
    FnOk P w K mg base (L2.CX P w) 1 fI fd ["self", p, q] (spX2 C f g c1 c2 c3) ∧ Binds K fd ["self", p, q] []
structure XCls1F (P : Program) (w : World) (K : PySem.W.Frag) (mg : Str → Option Value) (base : Heap) (Cn f c1 c2 : Str) : Prop where
  ex : ∃ (C fI : Addr) (fd : FuncData) (p : Str), mg Cn = some (.ref C) ∧ (OexC K C ∧ XfC K C ∧ PySem.W.findIn K (.ref C) f = some none) ∧ PySem.W.findIn K (.ref C) "__init__" = some (some (.ref fI)) ∧ PySem.W.typeIn K (.ref fI) = some (.type "function") ∧
    FnOk P w K mg base (L2.CX P w) 1 fI fd ["self", p] (spX1F C f c1 c2) ∧ Binds K fd ["self", p] []
section
variable {P : Program} {w : World} {K : PySem.W.Frag} {mg : Str → Option Value} {base h : Heap}
theorem XCls2.xc {Cn f g c1 c2 c3 : Str} (T : XCls2 P w K mg base Cn f g c1 c2 c3) : XC2 P w K mg base Cn f g c1 c2 c3 :=
  let ⟨C, fI, fd, p, q, h1, ⟨h2, _⟩, h3, h4, h5, h6⟩ := T.ex
  ⟨C, fI, fd, p, q, h1, h2, h3, h4, h5, h6⟩
theorem XCls1F.xc {Cn f c1 c2 : Str} (T : XCls1F P w K mg base Cn f c1 c2) : XC1F P w K mg base Cn f c1 c2 :=
  let ⟨C, fI, fd, p, h1, ⟨h2, _⟩, h3, h4, h5, h6⟩ := T.ex
  ⟨C, fI, fd, p, h1, h2, h3, h4, h5, h6⟩
end
end LV
set_option maxHeartbeats 400000
namespace LV
open PySem PySem.Spec L2
theorem valL_fz {env : En} : ∀ ds : List D, valL env (ds.map .fz) = some (ds.map Val.fz)
  | [] => rfl
  | d :: ds => by
    rw [List.map_cons, List.map_cons]
    simp only [valL, valOf, valL_fz ds]
theorem slots_fz : ∀ ds : List D, slotsOf (ds.map .fz) = []
  | [] => rfl
  | d :: ds => slots_fz ds
theorem putL_fz {env : En} : ∀ (ds : List D) (as : List Val), putL env (ds.map .fz) as = env
  | [], _ => by unfold putL; rfl
  | d :: ds, [] => rfl
  | d :: ds, a :: as => putL_fz ds as
end LV
namespace LV
open PySem PySem.Spec L2
end LV
namespace LV
open PySem PySem.Spec L2
structure EvR (env : En) (w : EW) (r : Rv) (env' : En) : Prop where
  go : ∀ {Q : Rv → En → Prop} {E : XW}, Q r env' → w env Q E
structure Ev (env : En) (w : EW) (d : D) (env' : En) : Prop where
  go : ∀ {Q : Rv → En → Prop} {E : XW}, Q (.fz d) env' → wFz w env Q E
structure EvL (env : En) (wl : AW) (ds : List D) (env' : En) : Prop where
  go : ∀ {Q : List Rv → En → Prop} {E : XW}, Q (ds.map .fz) env' → wl env Q E
structure EvT (env : En) (u : TW) (b : Bool) (env' : En) : Prop where
  go : ∀ {Q : Bool → En → Prop} {E : XW}, Q b env' → u env Q E
section
variable {env e1 e2 e3 : En} {w wa wb wc : EW} {wl : AW} {d a b c : D} {r : Rv} {ds : List D} {o : O} {i n : Nat} {u v : TW} {k l : Bool} {S : FSpec} {tbl : List (Str × FSpec)} {C m : Str} {ks : List Str} {vs : List D} {x : Xn}
theorem EvR.ev (h : EvR env w r e1) (e : r.frz = .fz d) : Ev env w d e1 := ⟨fun {Q E} q => h.go (Q := fun r e => Q r.frz e) (by rw [e]; exact q)⟩
theorem EvR.fz (h : EvR env w (.fz d) e1) : Ev env w d e1 := h.ev rfl
theorem EvR.ow (h : EvR env w (.ow o) e1) : Ev env w o.d e1 := h.ev rfl
theorem evl_nil : EvL env wNil [] env := ⟨fun q => q⟩
theorem evl_cons (h : Ev env w d e1) (t : EvL e1 wl ds e2) : EvL env (wCons w wl) (d :: ds) e2 := ⟨fun q => h.go (t.go q)⟩
theorem ev_frz (h : Ev env w d e1) : EvR env (wFrz w) (.fz d) e1 := ⟨fun q => h.go ⟨d, _, rfl, q⟩⟩
theorem ev_var (h : env[i]? = some (some (.fz d))) : EvR env (wVar i) (.fz d) env := ⟨fun {Q E} q => by
  simp only [wVar, h]; exact q⟩
theorem vx (i : Nat) {env : En} {d : D} (h : env[i]? = some (some (.fz d))) : Ev env (wVar i) d env := (ev_var h).fz
theorem fx (i : Nat) {env : En} {d : D} (h : env[i]? = some (some (.fz d))) : Ev env (wFrz (wVar i)) d env := (ev_frz (vx i h)).fz
theorem ev_c : EvR env (wC d) (.fz d) env := ⟨fun q => q⟩
theorem cx {env : En} {d : D} : Ev env (wC d) d env := ev_c.fz
theorem ev_op {g : G2} (ha : Ev env wa a e1) (hb : Ev e1 wb b e2) (hg : ∀ Q' : Rv → Prop, Q' r → g a b Q') : EvR env (wOp2 g wa wb) r e2 := ⟨fun q => ha.go (hb.go ⟨a, b, rfl, rfl, hg _ q⟩)⟩
theorem backOk_fz : ∀ ds : List D, backOk (ds.map .fz) (ds.map .fz) = true
  | [] => rfl
  | _ :: ds => backOk_fz ds
theorem ev_call (hl : EvL env wl ds e1) (hS : ∀ {Q' : Rv → List Val → Prop} {E' : Xn → List Val → Prop}, Q' r (ds.map .fz) → S (ds.map .fz) Q' E') (hr : ∀ i, r ≠ .sl i) : EvR env (wCall S wl) r e1 := ⟨fun {Q E} q => by
  unfold wCall
  exact hl.go ⟨_, valL_fz ds, by rw [slots_fz]; exact List.nodup_nil, hS ⟨backOk_fz ds, hr, by rw [putL_fz]; exact q⟩⟩⟩
theorem frzL_fz' {e : En} : ∀ ds : List D, frzL e (ds.map Rv.fz) = some (ds, e)
  | [] => rfl
  | d :: ds => by
    show (match frzL e (ds.map Rv.fz) with | none => none | some (ds, e2) => some (d :: ds, e2)) = some (d :: ds, e)
    rw [frzL_fz' ds]
theorem ev_tup (hl : EvL env wl ds e1) (hz : ds.length ≤ sizeLine) : EvR env (wTup wl) (.fz (.tup ds)) e1 := ⟨fun q => hl.go ⟨ds, e1, frzL_fz' ds, hz, q⟩⟩
theorem ev_lst (hl : EvL env wl ds e1) (hz : ds.length ≤ sizeLine) : EvR env (wLst wl) (.ow (.lst ds)) e1 := ⟨fun q => hl.go ⟨ds, e1, frzL_fz' ds, hz, q⟩⟩
theorem lookL_fz {e : En} : ∀ ds : List D, lookL e (ds.map Rv.fz) = some ds
  | [] => rfl
  | d :: ds => by
    show (match look e (.fz d), lookL e (ds.map Rv.fz) with | some d, some ds => some (d :: ds) | _, _ => none) = some (d :: ds)
    rw [lookL_fz ds]; rfl
theorem ev_blt {g : GL} (hl : EvL env wl ds e1) (hg : ∀ Q' : Rv → Prop, Q' r → g ds Q') : EvR env (wBlt g wl) r e1 := ⟨fun q => hl.go ⟨ds, lookL_fz ds, hg _ q⟩⟩
/-- a built-in over a name that owns -/
theorem ev_bltS {g : GL} (h : env[i]? = some (some (.ow o))) (hg : ∀ Q' : Rv → Prop, Q' r → g [o.d] Q') (hn : ∀ xs, o ≠ .nst xs := by intro _ z; cases z) : EvR env (wBlt g (wCons (wVar i) wNil)) r env := ⟨fun {Q E} q => by
  simp only [wBlt, wCons, wFz, wVar, h, wNil]
  refine ⟨[o.d], ?_, hg _ q⟩
  cases o <;> first | exact absurd rfl (hn _) | simp only [Rv.frz, lookL, look, h]⟩
theorem evt_B (h : EvR env w (.fz (.bl k)) e1) : EvT env (wB w) k e1 := ⟨fun q => h.go ⟨k, rfl, q⟩⟩
theorem evt_tru (h : Ev env w d e1) (t : truD d k) : EvT env (wTru w) k e1 := ⟨fun q => h.go ⟨d, k, rfl, t, q⟩⟩
theorem evt_trub (h : EvR env w (.fz (.bl k)) e1) : EvT env (wTru w) k e1 := evt_tru h.fz rfl
theorem evt_not (h : EvT env u k e1) : EvT env (wtNot u) (!k) e1 := ⟨fun q => h.go q⟩
theorem evt_or_f (h : EvT env u false e1) (t : EvT e1 v k e2) : EvT env (wtOr u v) k e2 := ⟨fun q => h.go (by rw [if_neg Bool.false_ne_true]; exact t.go q)⟩
variable {K : Ks} {s t : SW} {pn : List Nat}
theorem run_set (h : EvR env w (.fz d) e1) (q : K.nx (e1.set i (some (.fz d)))) : wSet i w K env := h.go q
theorem run_setO (h : EvR env w (.ow o) e1) (q : K.nx (e1.set i (some (.ow o)))) : wSet i w K env := h.go q
theorem run_if_t (h : EvT env u true e1) (q : s K e1) : wIf u s t K env := h.go (by rw [if_pos rfl]; exact q)
theorem run_if_f (h : EvT env u false e1) (q : t K e1) : wIf u s t K env := h.go (by rw [if_neg Bool.false_ne_true]; exact q)
theorem run_ret (h : EvR env w (.fz d) e1) (q : K.rt (.fz d) e1) : wRet pn w K env := h.go q
end
end LV
namespace LV
open PySem PySem.Spec L2
def TKey (d : D) : Prop := ∃ x, d = .str x
def valT (x : Str) : List D → List D → Option D
  | .str y :: ks, d :: ds => if y = x then some d else valT x ks ds
  | _ :: ks, _ :: ds => valT x ks ds
  | _, _ => none
section
variable {M : Md} {F H : Hp} {p : Addr} {ks ds : List D}
theorem DRep.text (h : DRep M F H p ks ds) (hk : ∀ k ∈ ks, TKey k) : ∃ kv : List (Key × V), H p = some (.dK kv) ∧ kv.map (fun p => kD p.1) = ks ∧ RepL M F (kv.map (·.2)) ds := by
  rcases h with h | ⟨xs, vs, h1, h2, h3, h4, h5, h6⟩
  · exact h
  · exfalso
    cases xs with
    | nil => exact h3.2 rfl
    | cons x xs =>
      subst h2
      obtain ⟨y, hy⟩ := hk _ List.mem_cons_self
      cases h4 with
      | cons r _ =>
        rw [hy] at r
        cases r
end
def gGetT : G2 := fun a b Q => match a, b with
  | .dct ks ds, .str x => (∀ k ∈ ks, TKey k) ∧ ∃ d, valT x ks ds = some d ∧ Q (.fz d)
  | _, _ => False
theorem Mono2.getT : Mono2 gGetT := ⟨fun {a b Q Q'} h q => by
  unfold gGetT at q ⊢
  split at q
  · obtain ⟨k, d, e, q⟩ := q; exact ⟨k, d, e, h _ q⟩
  · exact q⟩
end LV
set_option maxHeartbeats 1000000
namespace LV
open PySem PySem.Spec L2
end LV
namespace LV
open PySem PySem.Spec L2
def rngC (lo k : Int) : Nat → List D
  | 0 => []
  | n + 1 => .int lo :: rngC (lo + k) k n
theorem rngC_len : ∀ (n : Nat) (lo k : Int), (rngC lo k n).length = n
  | 0, _, _ => rfl
  | n + 1, lo, k => by rw [rngC, List.length_cons, rngC_len n]
theorem rngC_get : ∀ (n : Nat) (lo k : Int) (i : Nat), i < n → (rngC lo k n)[i]? = some (.int (lo + (i : Int) * k))
  | 0, _, _, i, h => by omega
  | n + 1, lo, k, 0, _ => by simp [rngC]
  | n + 1, lo, k, i + 1, h => by
    rw [rngC, List.getElem?_cons_succ, rngC_get n (lo + k) k i (by omega)]
    congr 2
    push_cast
    rw [Int.add_mul, Int.one_mul]
    omega
section
variable {X : Cx} {c : Ct} {W : WX} {tg a b d : Expr} {wl : AW} {p pos : Pos}
theorem Walks.rngC {M : Md} {F : Hp} {lo k : Int} {n : Nat} : Walks M c F (Itc lo k n) (rngC lo k n) yesK := by
  refine ⟨fun F' H' σ' env' R s _ i hi => by rw [rngC_len] at hi; exact hi, fun F' H' σ' env' R s _ i d hd => ?_⟩
  have hi : i < n := by
    have := (List.getElem?_eq_some_iff.mp hd).1
    rw [rngC_len] at this; exact this
  rw [rngC_get n lo k i hi] at hd; cases hd
  refine ⟨hi, fun x H'' ⟨e, y⟩ => ?_⟩
  subst e; subst y
  exact ⟨F', R.sub, Evo.refl, .int _⟩
def wRng3 (wl : AW) : IW := fun env Q E => wl env (fun rs e => ∃ i j k n, lookL e rs = some [.int i, .int j, .int k] ∧ RgC i j k n ∧ Q (LV.rngC i k n) yesK e) E
theorem si_rng3 (hg : Gl X "range") (hm : X.mg "range" = none) (ha : SA X c W [a, b, d] wl)
    (hs : starEach [a, b, d] X.env = (false, eval a X.env) :: starEach [b, d] X.env := by rfl) (hpl : (backTo pos (starEach [b, d] X.env)).any (·.1) = false := by rfl) :
    SI X c W tg (.Call (.Name "range" p) [a, b, d] [] pos) (wRng3 wl) := by
  refine ⟨PI.imp (pi_range3 hg hm ha.pa hs hpl) fun σ H R' q => ?_, ⟨fun hQ hE h => ha.mo.mo (fun rs e ⟨i, j, k, n, l, o, z⟩ => ⟨i, j, k, n, l, o, hQ _ _ _ z⟩) hE h⟩⟩
  obtain ⟨F, env, R, q⟩ := q
  refine ⟨F, env, R, ha.mo.mo (fun rs e1 ⟨i, j, k, n, l, o, z⟩ => ?_) (fun _ _ z => z) q⟩
  intro vs F1 H1 R1 ev1 ok
  exact ⟨i, j, k, n, vwL_int3 (ok.vw R1 l), o, z F1 H1 _ R1 ev1 Walks.rngC⟩
end
end LV
namespace LV
open PySem PySem.Spec PyProof.Rows L2
end LV
namespace LV
open PySem GenW PyProof.Rows
/-- a frame of the same place that has no generator in it -/
def stub (F : Frame) : Frame := .ret (fun _ => .unsupported "asleep") none false [] F.where_.1 F.where_.2 []
/-- a state that looks the same and cannot be woken -/
def dead : GenState → GenState
  | .suspended _ l c p fs cl => .suspended (fun _ => .unsupported "asleep") l c p (fs.map stub) cl
  | g => g
theorem dead_seen (g : GenState) : (dead g).seen = g.seen := by
  cases g with
  | suspended k l c p fs cl =>
    show ((GenStatus.suspended, some ((c, p) :: (fs.map stub).map Frame.where_)) : GenStatus × Option (List (Code × Pos))) = (.suspended, some ((c, p) :: fs.map Frame.where_))
    rw [List.map_map]
    rfl
  | _ => rfl
theorem dead_bare (g : GenState) : (dead g).bare = g.bare := by cases g <;> rfl
/-- it sleeps -/
def Sl : GenState → Prop
  | .suspended .. => True
  | _ => False
theorem splitAtGen_stubs : ∀ fs : List Frame, splitAtGen (fs.map stub) = none
  | [] => rfl
  | F :: fs => by
    show (splitAtGen (fs.map stub)).map _ = none
    rw [splitAtGen_stubs fs]; rfl
/-- no generator within the frames of what sleeps -/
def Plain (s : Shared) : Prop := ∀ (g : Nat) (k : Resume → Sem PySem.Fin) (l : List Value) (c : Code) (p : Pos) (fs : List Frame) (cl : Bool), s.gens[g]? = some (.suspended k l c p fs cl) → splitAtGen fs = none
/-- s' is s with the sleeping states of I dead -/
structure Beside (I : Nat → Option GenState) (s s' : Shared) : Prop where
  heap : s'.heap = s.heap
  drawn : s'.drawn = s.drawn
  toks : s'.toks = s.toks
  os : s'.os = s.os
  size : s'.gens.size = s.gens.size
  out : ∀ g, I g = none → s'.gens[g]? = s.gens[g]?
  inn : ∀ g x, I g = some x → Sl x ∧ s.gens[g]? = some x ∧ s'.gens[g]? = some (dead x)
theorem no_run {M : Model} {Γ : PySem.Ctx} {p : Pos} {m : String} {fs : List Frame} {s s' : Shared} {e : End} : ¬ Runs M Γ p (.unsupported m) fs s e s' := fun h => by
  cases h with
  | segRet h _ => cases h
  | segGen h _ => cases h
  | segSuspOut _ h => cases h
  | segSuspGen _ h _ _ => cases h
theorem setGen_get {s : Shared} {g h : Nat} {x : GenState} : (s.setGen g x).gens[h]? = if h = g then (if g < s.gens.size then some x else none) else s.gens[h]? := by
  show (s.gens.setIfInBounds g x)[h]? = _
  by_cases e : h = g
  · subst e
    rw [if_pos rfl]
    by_cases hl : h < s.gens.size
    · rw [if_pos hl]; simp [hl]
    · rw [if_neg hl]; simp [hl]
  · rw [if_neg e, Array.getElem?_setIfInBounds_ne (Ne.symm e)]
section
variable {I : Nat → Option GenState} {s s' : Shared}
theorem Beside.heap' (b : Beside I s s') (h : Heap) : Beside I { s with heap := h } { s' with heap := h } := ⟨rfl, b.drawn, b.toks, b.os, b.size, b.out, b.inn⟩
theorem Beside.setGen (b : Beside I s s') {g : Nat} (hg : I g = none) (x : GenState) : Beside I (s.setGen g x) (s'.setGen g x) := by
  refine ⟨b.heap, b.drawn, b.toks, b.os, ?_, fun h hh => ?_, fun h y hh => ?_⟩
  · rw [setGen_size, setGen_size]; exact b.size
  · rw [setGen_get, setGen_get, b.size]
    split
    · rfl
    · exact b.out h hh
  · have hne : h ≠ g := fun z => by rw [z, hg] at hh; cases hh
    rw [setGen_get, setGen_get, if_neg hne, if_neg hne]
    exact b.inn h y hh
theorem Beside.push (b : Beside I s s') (x : GenState) : Beside I { s with gens := s.gens.push x } { s' with gens := s'.gens.push x } := by
  refine ⟨b.heap, b.drawn, b.toks, b.os, ?_, fun h hh => ?_, fun h y hh => ?_⟩
  · show (s'.gens.push x).size = (s.gens.push x).size
    rw [Array.size_push, Array.size_push, b.size]
  · show (s'.gens.push x)[h]? = (s.gens.push x)[h]?
    rw [Array.getElem?_push, Array.getElem?_push, b.size]
    split
    · rfl
    · exact b.out h hh
  · obtain ⟨h1, h2, h3⟩ := b.inn h y hh
    refine ⟨h1, ?_, ?_⟩
    · show (s.gens.push x)[h]? = some y
      rw [Array.getElem?_push, if_neg (fun z => by rw [Array.getElem?_eq_none (by omega)] at h2; cases h2)]
      exact h2
    · show (s'.gens.push x)[h]? = some (dead y)
      rw [Array.getElem?_push, if_neg (fun z => by rw [Array.getElem?_eq_none (by omega)] at h3; cases h3)]
      exact h3
theorem Beside.none_of (b : Beside I s s') {g : Nat} {x : GenState} (h : s'.gens[g]? = some x) (hx : ¬ Sl x) : I g = none := by
  cases e : I g with
  | none => rfl
  | some y =>
    obtain ⟨h1, h2, h3⟩ := b.inn g y e
    rw [h] at h3
    cases h3
    cases y <;> first | exact h1.elim | exact absurd trivial hx
end
theorem Plain.heap {s : Shared} (h : Plain s) (hp : Heap) : Plain { s with heap := hp } := h
theorem Plain.setGen {s : Shared} (h : Plain s) {g : Nat} {x : GenState} (hx : ∀ k l c p fs cl, x = .suspended k l c p fs cl → splitAtGen fs = none) : Plain (s.setGen g x) := fun i k l c p fs cl e => by
  rw [setGen_get] at e
  split at e
  · split at e
    · cases e; exact hx _ _ _ _ _ _ rfl
    · cases e
  · exact h _ _ _ _ _ _ _ e
theorem Plain.push {s : Shared} (h : Plain s) (c0 : Code) : Plain { s with gens := s.gens.push (.fresh c0) } := fun i k l c p fs cl e => by
  have e : (s.gens.push (.fresh c0))[i]? = some (.suspended k l c p fs cl) := e
  rw [Array.getElem?_push] at e
  split at e
  · cases e
  · exact h _ _ _ _ _ _ _ e
/-- an end's frames hold no generator -/
def EndPlain : End → Prop
  | .ret _ => True
  | .susp _ _ _ _ _ _ fs => splitAtGen fs = none
theorem EndPlain.gen {e : End} (h : EndPlain e) : ∀ k l c p fs cl, e.genState = .suspended k l c p fs cl → splitAtGen fs = none := fun k l c p fs cl q => by
  cases e with
  | ret r => cases q
  | susp v g l' k' c' p' fs' => cases q; exact h
theorem split_app : ∀ {fs gs : List Frame}, splitAtGen fs = none → splitAtGen gs = none → splitAtGen (fs ++ gs) = none
  | [], _, _, h => h
  | .ret .. :: fs, gs, h1, h2 => by
    have h1 : (splitAtGen fs).map _ = none := h1
    have e : splitAtGen fs = none := Option.map_eq_none_iff.mp h1
    show (splitAtGen (fs ++ gs)).map _ = none
    rw [split_app e h2]; rfl
  | .gen .. :: fs, gs, h1, h2 => by cases h1
theorem split_tail {F : Frame} {fs : List Frame} (h : splitAtGen (F :: fs) = none) : splitAtGen fs = none := by
  cases F with
  | ret k hd g l c p kp => exact Option.map_eq_none_iff.mp (show (splitAtGen fs).map _ = none from h)
  | gen g k l c p => cases h
theorem runs_beside {M : Model} {Γ : PySem.Ctx} {p : Pos} {t : Sem PySem.Fin} {fs : List Frame} {s' z' : Shared} {e : End} (h : Runs M Γ p t fs s' e z') :
    ∀ {I : Nat → Option GenState} {s : Shared}, splitAtGen fs = none → Plain s' → Beside I s s' → ∃ z, Runs M Γ p t fs s e z ∧ Beside I z z' ∧ Plain z' ∧ EndPlain e := by
  induction h with
  | done => intro I s _ pl b; exact ⟨s, .done, b, pl, trivial⟩
  | raise => intro I s _ pl b; exact ⟨s, .raise, b, pl, trivial⟩
  | again hq _ ih => intro I s hf pl b; obtain ⟨z, r, q⟩ := ih hf pl b; exact ⟨z, .again hq r, q⟩
  | rule _ ih => intro I s hf pl b; obtain ⟨z, r, q⟩ := ih hf pl b; exact ⟨z, .rule r, q⟩
  | «at» _ ih => intro I s hf pl b; obtain ⟨z, r, q⟩ := ih hf pl b; exact ⟨z, .at r, q⟩
  | load ho _ ih => intro I s hf pl b; obtain ⟨z, r, q⟩ := ih hf pl b; exact ⟨z, .load (by rw [← b.heap]; exact ho) r, q⟩
  | update ho _ ih =>
    intro I s hf pl b
    rw [b.heap] at ho ih
    obtain ⟨z, r, q⟩ := ih hf (pl.heap _) (b.heap' _)
    exact ⟨z, .update ho r, q⟩
  | loadIfAlive _ ih => intro I s hf pl b; obtain ⟨z, r, q⟩ := ih hf pl b; exact ⟨z, .loadIfAlive (by rw [← b.heap]; exact r), q⟩
  | point _ ih => intro I s hf pl b; obtain ⟨z, r, q⟩ := ih hf pl b; exact ⟨z, .point r, q⟩
  | alloc _ ih =>
    intro I s hf pl b
    rw [b.heap] at ih
    obtain ⟨z, r, q⟩ := ih hf (pl.heap _) (b.heap' _)
    exact ⟨z, .alloc r, q⟩
  | fresh _ ih =>
    intro I s hf pl b
    obtain ⟨z, r, q⟩ := ih (s := { s with toks := s.toks + 1 }) hf pl ⟨b.heap, b.drawn, by show _ = s.toks + 1; rw [← b.toks], b.os, b.size, b.out, b.inn⟩
    exact ⟨z, .fresh (by rw [← b.toks]; rw [b.toks] at r ⊢; exact r), q⟩
  | ask _ ih => intro I s hf pl b; obtain ⟨z, r, q⟩ := ih hf pl b; exact ⟨z, .ask r, q⟩
  | choose hn _ ih =>
    intro I s hf pl b
    rw [b.drawn] at ih
    obtain ⟨z, r, q⟩ := ih (s := { s with drawn := s.drawn.bump _ }) hf pl ⟨b.heap, rfl, b.toks, b.os, b.size, b.out, b.inn⟩
    exact ⟨z, .choose hn r, q⟩
  | os _ ih =>
    intro I s hf pl b
    rw [b.os] at ih
    obtain ⟨z, r, q⟩ := ih (s := { s with os := (Os.step s.os _).1 }) hf pl ⟨b.heap, b.drawn, b.toks, rfl, b.size, b.out, b.inn⟩
    exact ⟨z, .os r, q⟩
  | handled _ ih => intro I s hf pl b; obtain ⟨z, r, q⟩ := ih hf pl b; exact ⟨z, .handled r, q⟩
  | @genState g st Γ p k s0 e z' hg _ ih =>
    intro I s hf pl b
    obtain ⟨z, r, q⟩ := ih hf pl b
    cases e : I g with
    | none => exact ⟨z, .genState (by rw [← b.out g e]; exact hg) r, q⟩
    | some x =>
      obtain ⟨h1, h2, h3⟩ := b.inn g x e
      rw [hg] at h3
      cases h3
      rw [dead_seen] at r
      exact ⟨z, .genState h2 r, q⟩
  | stack _ ih => intro I s hf pl b; obtain ⟨z, r, q⟩ := ih hf pl b; exact ⟨z, .stack r, q⟩
  | thread _ ih => intro I s hf pl b; obtain ⟨z, r, q⟩ := ih hf pl b; exact ⟨z, .thread r, q⟩
  | newGen _ ih =>
    intro I s hf pl b
    obtain ⟨z, r, q⟩ := ih hf (pl.push _) (b.push _)
    exact ⟨z, .newGen (by rw [b.size] at r; exact r), q⟩
  | call _ _ ih1 ih2 =>
    intro I s hf pl b
    obtain ⟨z1, r1, b1, p1, _⟩ := ih1 rfl pl b
    obtain ⟨z, r, q⟩ := ih2 rfl p1 b1
    exact ⟨z, .call r1 r, q⟩
  | callSusp _ ih =>
    intro I s hf pl b
    obtain ⟨z, r, b1, p1, ep⟩ := ih rfl pl b
    exact ⟨z, .callSusp r, b1, p1, split_app ep rfl⟩
  | yield => intro I s hf pl b; exact ⟨s, .yield, b, pl, rfl⟩
  | resumeFresh hg _ hq _ ih1 ih2 =>
    intro I s hf pl b
    have hI := b.none_of hg (fun z => z)
    obtain ⟨z1, r1, b1, p1, e1⟩ := ih1 rfl (pl.setGen fun _ _ _ _ _ _ q => by cases q) (b.setGen hI .running)
    obtain ⟨z, r, q⟩ := ih2 rfl (p1.setGen e1.gen) (b1.setGen hI _)
    exact ⟨z, .resumeFresh (by rw [← b.out _ hI]; exact hg) r1 hq r, q⟩
  | @resumeSuspended Γ p g r0 l k s0 k₀ l₀ c₀ p₀ fs cl e₁ s₁ e s'' hg hrun hq _ ih1 ih2 =>
    intro I s hf pl b
    have hI : I g = none := by
      cases e : I g with
      | none => rfl
      | some x =>
        obtain ⟨h1, h2, h3⟩ := b.inn g x e
        rw [hg] at h3
        cases x with
        | suspended => cases h3; exact absurd hrun no_run
        | _ => exact h1.elim
    obtain ⟨z1, r1, b1, p1, e1⟩ := ih1 (pl _ _ _ _ _ _ _ hg) (pl.setGen fun _ _ _ _ _ _ q => by cases q) (b.setGen hI .running)
    obtain ⟨z, r, q⟩ := ih2 rfl (p1.setGen e1.gen) (b1.setGen hI _)
    exact ⟨z, .resumeSuspended (by rw [← b.out _ hI]; exact hg) r1 hq r, q⟩
  | resumeJustStarted hg hv _ ih =>
    intro I s hf pl b
    obtain ⟨z, r, q⟩ := ih rfl pl b
    exact ⟨z, .resumeJustStarted (by rw [← b.out _ (b.none_of hg (fun z => z))]; exact hg) hv r, q⟩
  | resumeThrowFresh hg _ ih =>
    intro I s hf pl b
    have hI := b.none_of hg (fun z => z)
    obtain ⟨z, r, q⟩ := ih rfl (pl.setGen fun _ _ _ _ _ _ q => by cases q) (b.setGen hI _)
    exact ⟨z, .resumeThrowFresh (by rw [← b.out _ hI]; exact hg) r, q⟩
  | resumeRunning hg _ ih =>
    intro I s hf pl b
    obtain ⟨z, r, q⟩ := ih rfl pl b
    exact ⟨z, .resumeRunning (by rw [← b.out _ (b.none_of hg (fun z => z))]; exact hg) r, q⟩
  | resumeFinished hg _ ih =>
    intro I s hf pl b
    obtain ⟨z, r, q⟩ := ih rfl pl b
    exact ⟨z, .resumeFinished (by rw [← b.out _ (b.none_of hg (fun z => z))]; exact hg) r, q⟩
  | segRet _ _ ih1 ih2 =>
    intro I s hf pl b
    obtain ⟨z1, r1, b1, p1, _⟩ := ih1 rfl pl b
    obtain ⟨z, r, q⟩ := ih2 (split_tail hf) p1 b1
    exact ⟨z, .segRet r1 r, q⟩
  | segGen => intro I s hf; cases hf
  | segSuspOut hs _ ih =>
    intro I s hf pl b
    obtain ⟨z, r, b1, p1, ep⟩ := ih rfl pl b
    exact ⟨z, .segSuspOut hs r, b1, p1, split_app ep hs⟩
  | segSuspGen hs => intro I s hf; rw [hf] at hs; cases hs
theorem returns_beside {M : Model} {Γ : PySem.Ctx} {p : Pos} {s' z' : Shared} {r : Result} (h : Returns M Γ p s' r z') {I : Nat → Option GenState} {s : Shared} (pl : Plain s') (b : Beside I s s') : ∃ z, Returns M Γ p s r z ∧ Beside I z z' ∧ Plain z' := by
  obtain ⟨z, r, q1, q2, _⟩ := runs_beside h rfl pl b
  exact ⟨z, r, q1, q2⟩
theorem wakes_beside {M : Model} {Γ : PySem.Ctx} {p : Pos} {g : Nat} {r : Resume} {s' z' : Shared} {res : GenResult} (h : Wakes M Γ p g r s' res z') {I : Nat → Option GenState} {s : Shared} (pl : Plain s') (b : Beside I s s') :
    ∃ z, Wakes M Γ p g r s res z ∧ Beside I z z' ∧ Plain z' := by
  unfold Wakes at h
  split at h
  · exact h.elim
  · rename_i c hg
    have hI := b.none_of hg (fun z => z)
    have hs : s.gens[g]? = some (.fresh c) := by rw [← b.out _ hI]; exact hg
    split at h
    · obtain ⟨e₁, s₁, hr, hq, h1, rfl⟩ := h
      obtain ⟨z1, r1, b1, p1, e1⟩ := runs_beside hr rfl (pl.setGen fun _ _ _ _ _ _ q => by cases q) (b.setGen hI .running)
      exact ⟨_, by unfold Wakes; rw [hs]; exact ⟨e₁, z1, r1, hq, h1, rfl⟩, b1.setGen hI _, p1.setGen e1.gen⟩
    · obtain ⟨h1, rfl⟩ := h
      rename_i v hv
      refine ⟨s, ?_, b, pl⟩
      unfold Wakes; rw [hs]
      cases v <;> first | exact absurd rfl hv | exact ⟨h1, rfl⟩
    · obtain ⟨h1, rfl⟩ := h
      exact ⟨_, by unfold Wakes; rw [hs]; exact ⟨h1, rfl⟩, b.setGen hI _, pl.setGen fun _ _ _ _ _ _ q => by cases q⟩
  · rename_i k₀ l₀ c₀ p₀ fs cl hg
    obtain ⟨e₁, s₁, hr, hq, h1, rfl⟩ := h
    have hI : I g = none := by
      cases e : I g with
      | none => rfl
      | some x =>
        obtain ⟨h1, h2, h3⟩ := b.inn g x e
        rw [hg] at h3
        cases x with
        | suspended => cases h3; exact absurd hr no_run
        | _ => exact h1.elim
    have hs : s.gens[g]? = some (.suspended k₀ l₀ c₀ p₀ fs cl) := by rw [← b.out _ hI]; exact hg
    obtain ⟨z1, r1, b1, p1, e1⟩ := runs_beside hr (pl _ _ _ _ _ _ _ hg) (pl.setGen fun _ _ _ _ _ _ q => by cases q) (b.setGen hI .running)
    exact ⟨_, by unfold Wakes; rw [hs]; exact ⟨e₁, z1, r1, hq, h1, rfl⟩, b1.setGen hI _, p1.setGen e1.gen⟩
  · rename_i hg
    obtain ⟨h1, rfl⟩ := h
    have hI := b.none_of hg (fun z => z)
    exact ⟨s, by unfold Wakes; rw [show s.gens[g]? = some .running by rw [← b.out _ hI]; exact hg]; exact ⟨h1, rfl⟩, b, pl⟩
  · rename_i hg
    obtain ⟨h1, rfl⟩ := h
    have hI := b.none_of hg (fun z => z)
    exact ⟨s, by unfold Wakes; rw [show s.gens[g]? = some .finished by rw [← b.out _ hI]; exact hg]; exact ⟨h1, rfl⟩, b, pl⟩
theorem wp_beside {α : Type} (M : Model) (Γ : PySem.Ctx) (I : Nat → Option GenState) (t : Sem α) : ∀ (Q : α → Pos → Shared → Prop) (E : Value → Pos → Shared → Prop) (p : Pos) (s' : Shared) (s : Shared), Plain s' → Beside I s s' → PySem.Sem.wp M Γ t Q E p s' →
    PySem.Sem.wp M Γ t (fun a p' z => ∃ z', Plain z' ∧ Beside I z z' ∧ Q a p' z') (fun e p' z => ∃ z', Plain z' ∧ Beside I z z' ∧ E e p' z') p s := by
  induction t with
  | pure a => intro Q E p s' s pl b h; exact ⟨s', pl, b, h⟩
  | raise e => intro Q E p s' s pl b h; exact ⟨s', pl, b, h⟩
  | unsupported _ => intro Q E p s' s pl b h; exact h
  | finish _ => intro Q E p s' s pl b h; exact h
  | rule _ k ih => intro Q E p s' s pl b h; exact ih () Q E p s' s pl b h
  | «at» p' k ih => intro Q E p s' s pl b h; exact ih () Q E p' s' s pl b h
  | load a _ k ih => intro Q E p s' s pl b h; obtain ⟨o, ho, h⟩ := h; exact ⟨o, by rw [← b.heap]; exact ho, ih o Q E p s' s pl b h⟩
  | update a _ f k ih =>
    intro Q E p s' s pl b h
    obtain ⟨h1, h2⟩ := h
    rw [b.heap] at h1 h2
    exact ⟨h1, ih () Q E p _ _ (pl.heap _) (b.heap' _) h2⟩
  | loadIfAlive a k ih =>
    intro Q E p s' s pl b h
    have h : PySem.Sem.wp M Γ (k (s'.heap.get? a)) Q E p s' := h
    rw [b.heap] at h
    exact ih _ Q E p s' s pl b h
  | point _ k ih => intro Q E p s' s pl b h; exact ih () Q E p s' s pl b h
  | register _ _ => intro Q E p s' s pl b h; exact h
  | alloc o k ih =>
    intro Q E p s' s pl b h
    have h : PySem.Sem.wp M Γ (k s'.heap.objs.size) Q E p { s' with heap := s'.heap.push o } := h
    rw [b.heap] at h
    exact ih _ Q E p _ _ (pl.heap _) (b.heap' _) h
  | fresh k ih =>
    intro Q E p s' s pl b h
    have h : PySem.Sem.wp M Γ (k s'.toks) Q E p { s' with toks := s'.toks + 1 } := h
    rw [b.toks] at h
    exact ih _ Q E p { s' with toks := s.toks + 1 } { s with toks := s.toks + 1 } pl ⟨b.heap, b.drawn, rfl, b.os, b.size, b.out, b.inn⟩ h
  | ask k ih => intro Q E p s' s pl b h; exact ih _ Q E p s' s pl b h
  | choose src m k ih =>
    intro Q E p s' s pl b h
    obtain ⟨h1, h2⟩ := h
    rw [b.drawn] at h2
    exact ⟨h1, ih _ Q E p { s' with drawn := s.drawn.bump src } { s with drawn := s.drawn.bump src } pl ⟨b.heap, rfl, b.toks, b.os, b.size, b.out, b.inn⟩ h2⟩
  | os q _ k ih =>
    intro Q E p s' s pl b h
    have h : PySem.Sem.wp M Γ (k (Os.step s'.os q).2) Q E p { s' with os := (Os.step s'.os q).1 } := h
    rw [b.os] at h
    exact ih _ Q E p { s' with os := (Os.step s.os q).1 } { s with os := (Os.step s.os q).1 } pl ⟨b.heap, b.drawn, b.toks, rfl, b.size, b.out, b.inn⟩ h
  | call c hd _ _ k ih =>
    intro Q E p s' s pl b h
    obtain ⟨r, s₁, hr, h⟩ := h
    obtain ⟨z1, r1, b1, p1⟩ := returns_beside hr pl b
    exact ⟨r, z1, r1, ih r Q E p s₁ z1 p1 b1 h⟩
  | handled own k ih => intro Q E p s' s pl b h; exact ih _ Q E p s' s pl b h
  | genState g k ih =>
    intro Q E p s' s pl b h
    obtain ⟨st, hg, h⟩ := h
    cases e : I g with
    | none => exact ⟨st, by rw [← b.out g e]; exact hg, ih _ Q E p s' s pl b h⟩
    | some x =>
      obtain ⟨h1, h2, h3⟩ := b.inn g x e
      rw [hg] at h3
      cases h3
      rw [dead_seen] at h
      exact ⟨x, h2, ih _ Q E p s' s pl b h⟩
  | newGen c k ih =>
    intro Q E p s' s pl b h
    have h : PySem.Sem.wp M Γ (k s'.gens.size) Q E p { s' with gens := s'.gens.push (.fresh c) } := h
    rw [b.size] at h
    exact ih _ Q E p _ _ (pl.push c) (b.push _) h
  | resume g r _ k ih =>
    intro Q E p s' s pl b h
    obtain ⟨res, s₁, hw, h⟩ := h
    obtain ⟨z1, r1, b1, p1⟩ := wakes_beside hw pl b
    exact ⟨res, z1, r1, ih res Q E p s₁ z1 p1 b1 h⟩
  | yield _ _ _ _ => intro Q E p s' s pl b h; exact h
  | stack k ih => intro Q E p s' s pl b h; exact ih _ Q E p s' s pl b h
  | fork _ _ => intro Q E p s' s pl b h; exact h
  | thread k ih => intro Q E p s' s pl b h; exact ih _ Q E p s' s pl b h
  | await _ _ _ _ _ => intro Q E p s' s pl b h; exact h
theorem wpAny_beside {α : Type} {M : Model} {A : Around} {t : Sem α} {Q : α → Shared → Prop} {E : Value → Shared → Prop} {I : Nat → Option GenState} {s s' : Shared} (pl : Plain s') (b : Beside I s s') (h : wpAny M A t Q E s') :
    wpAny M A t (fun a z => ∃ z', Plain z' ∧ Beside I z z' ∧ Q a z') (fun e z => ∃ z', Plain z' ∧ Beside I z z' ∧ E e z') s := fun Γ p hΓ =>
  wp_beside M Γ I t (fun a _ z => Q a z) (fun e _ z => E e z) p _ _ pl b (h Γ p hΓ)
/-- all that sleeps in s -/
def slp (s : Shared) : Nat → Option GenState := fun g => match s.gens[g]? with
  | some (.suspended k l c p fs cl) => some (.suspended k l c p fs cl)
  | _ => none
/-- s with all that sleeps dead -/
def deadS (s : Shared) : Shared := { s with gens := s.gens.map dead }
theorem beside_deadS (s : Shared) : Beside (slp s) s (deadS s) := by
  refine ⟨rfl, rfl, rfl, rfl, Array.size_map .., fun g h => ?_, fun g x h => ?_⟩
  · show (s.gens.map dead)[g]? = _
    rw [Array.getElem?_map]
    unfold slp at h
    cases e : s.gens[g]? with
    | none => rfl
    | some y =>
      rw [e] at h
      cases y with
      | suspended => cases h
      | _ => rfl
  · have hx : s.gens[g]? = some x ∧ Sl x := by
      unfold slp at h
      split at h
      · rename_i e; cases h; exact ⟨e, trivial⟩
      · cases h
    refine ⟨hx.2, hx.1, ?_⟩
    show (s.gens.map dead)[g]? = _
    rw [Array.getElem?_map, hx.1]; rfl
theorem plain_deadS (s : Shared) : Plain (deadS s) := fun g k l c p fs cl e => by
  have e : (s.gens.map dead)[g]? = some (.suspended k l c p fs cl) := e
  rw [Array.getElem?_map] at e
  cases h : s.gens[g]? with
  | none => rw [h] at e; cases e
  | some y =>
    rw [h] at e
    cases y with
    | suspended => cases e; exact splitAtGen_stubs _
    | _ => cases e
/-- THE RULE: what sleeps is kept by what cannot wake it -/
theorem wpAny_asleep {α : Type} {M : Model} {A : Around} {t : Sem α} {Q : α → Shared → Prop} {E : Value → Shared → Prop} {s : Shared} (h : wpAny M A t Q E (deadS s)) :
    wpAny M A t (fun a z => ∃ z', Plain z' ∧ Beside (slp s) z z' ∧ Q a z') (fun e z => ∃ z', Plain z' ∧ Beside (slp s) z z' ∧ E e z') s :=
  wpAny_beside (plain_deadS s) (beside_deadS s) h
theorem Beside.kept {s z z' : Shared} (b : Beside (slp s) z z') {g : Nat} {x : GenState} (h : s.gens[g]? = some x) (hx : Sl x) : z.gens[g]? = some x := by
  refine (b.inn g x ?_).2.1
  unfold slp
  rw [h]
  cases x with
  | suspended => rfl
  | _ => exact hx.elim
theorem Beside.bare {I : Nat → Option GenState} {z z' : Shared} (b : Beside I z z') (h : AllBare z'.gens) : AllBare z.gens := fun y hy => by
  obtain ⟨i, hi, e⟩ := Array.mem_iff_getElem.mp hy
  have e : z.gens[i]? = some y := by rw [Array.getElem?_eq_getElem hi, e]
  cases q : I i with
  | none =>
    rw [← b.out i q] at e
    exact h y (Array.mem_of_getElem? e)
  | some x =>
    obtain ⟨h1, h2, h3⟩ := b.inn i x q
    rw [e] at h2
    cases h2
    rw [← dead_bare]
    exact h _ (Array.mem_of_getElem? h3)
theorem deadS_bare {s : Shared} (h : AllBare s.gens) : AllBare (deadS s).gens := fun y hy => by
  obtain ⟨x, hx, rfl⟩ := Array.mem_map.mp (show y ∈ s.gens.map dead from hy)
  rw [dead_bare]
  exact h x hx
end LV
namespace LV
open PySem PySem.Spec L2 GenW PyProof.Rows
def RT (M : Model) (A : Around) (c : Code) (t : Sem PySem.Fin) (fs : List Frame) (s : Shared) (Φ : End → Shared → Prop) : Prop :=
  ∀ (Γ : PySem.Ctx) (p : Pos), Γ.code = c → Γ.Woken A → ∃ e s', Runs M Γ p t fs s e s' ∧ Φ e s'
section
variable {M : Model} {A : Around} {c : Code} {fs : List Frame} {s : Shared} {Φ : End → Shared → Prop}
theorem rt_wrap {α : Type} {m : Sem α} {K : α → Sem PySem.Fin} {H : Value → Sem PySem.Fin} {gd : Bool → Bool} {lv : List Value → List Value}
    (h : wpAny M (A.over c fs) m (fun a s' => RT M A c (K a) fs s' Φ) (fun x s' => RT M A c (H x) fs s' Φ) s) : RT M A c (m.wrap K H gd lv) fs s Φ := by
  rintro Γ p rfl hΓ
  exact runs_wrap_of_wp K H gd lv m (h (Γ.over fs) p (hΓ.over fs)) (fun a p' s' h' => h' Γ p' rfl hΓ) (fun x p' s' h' => h' Γ p' rfl hΓ)
theorem rt_bind_wrap {α β : Type} {m : Sem α} {K : α → Sem β} {K' : β → Sem PySem.Fin} {H' : Value → Sem PySem.Fin} {gd : Bool → Bool} {lv : List Value → List Value}
    (h : wpAny M (A.over c fs) m (fun a s' => RT M A c ((K a).wrap K' H' gd lv) fs s' Φ) (fun x s' => RT M A c (H' x) fs s' Φ) s) : RT M A c ((m >>= K).wrap K' H' gd lv) fs s Φ := by
  rw [Sem.bind_eq_wrap', Sem.wrap_wrap]; exact rt_wrap h
theorem rt_at {p' : Pos} {k : Unit → Sem PySem.Fin} (h : RT M A c (k ()) fs s Φ) : RT M A c (.at p' k) fs s Φ :=
  rt_wrap (m := standAt p') (K := k) (H := .raise) (gd := id) (lv := id) (wpAny_standAt h)
theorem rt_point {l : List Value} {k : Unit → Sem PySem.Fin} (h : RT M A c (k ()) fs s Φ) : RT M A c (.point l k) fs s Φ :=
  rt_wrap (m := point) (K := k) (H := .raise) (gd := id) (lv := fun _ => l) (wpAny_point h)
theorem rt_call {c' : Code} {h g l} {k : Result → Sem PySem.Fin} (hc : ∀ p, RT M A c' (M.den c') (.ret k h g l c p [] :: fs) s Φ) : RT M A c (.call c' h g l k) fs s Φ := by
  rintro Γ p rfl hΓ
  obtain ⟨e, s', hr, he⟩ := hc p (Γ.goto c') p rfl (hΓ.goto c')
  exact ⟨e, s', runs_call_seg hr, he⟩
theorem rt_leaf {k h g l c₁ p₁ kp} (r : Result) (hk : RT M A c₁ (k r) fs s Φ) : RT M A c (leafOf r) (.ret k h g l c₁ p₁ kp :: fs) s Φ := by
  rintro Γ p rfl hΓ
  obtain ⟨e, s', hr, he⟩ := hk (Γ.goto c₁) p₁ rfl (hΓ.goto c₁)
  exact ⟨e, s', Runs.pop r hr, he⟩
theorem rt_again {c' : Code} (hq : c'.quiet = true) (hc : RT M A c' (M.den c') fs s Φ) : RT M A c (.pure (.again c')) fs s Φ := by
  rintro Γ p rfl hΓ
  obtain ⟨e, s', hr, he⟩ := hc (Γ.goto c') p rfl (hΓ.goto c')
  exact ⟨e, s', Runs.head (c₁ := c') (fun _ _ x => .again hq x) hr, he⟩
theorem rt_end (r : Result) (h : Φ (.ret r) s) : RT M A c (leafOf r) [] s Φ := by
  rintro Γ p rfl _
  exact ⟨.ret r, s, Runs.leaf r, h⟩
theorem rt_yield {v g l} {k : Resume → Sem PySem.Fin} (hfs : splitAtGen fs = none) (h : ∀ p, Φ (.susp v g l k c p fs) s) : RT M A c (.yield v g l k) fs s Φ := by
  rintro Γ p rfl _
  exact ⟨_, s, Runs.yield' fs hfs, h p⟩
section
variable {env : Env} {K : Flow → Sem PySem.Fin} {J : Value → Sem PySem.Fin} {gd : Bool → Bool} {lv : List Value → List Value}
theorem rt_execs_cons {st : Stmt} {rest : List Stmt}
    (h : RT M A c ((exec st env).wrap (fun f => match f with | .next => (execs rest env).wrap K J gd lv | f => K f) J gd lv) fs s Φ) : RT M A c ((execs (st :: rest) env).wrap K J gd lv) fs s Φ := by rw [execs_cons_wrap]; exact h
theorem rt_If {test : Expr} {body orelse : List Stmt} {pos : Pos} (h : wpAny M (A.over c fs) (isTrue test env (eval test env)) (fun b s' => RT M A c ((if b = true then execs body env else execs orelse env).wrap K J gd lv) fs s' Φ) (fun x s' => RT M A c (J x) fs s' Φ) s) :
    RT M A c ((exec (.If test body orelse pos) env).wrap K J gd lv) fs s Φ := by
  rw [exec_If]
  refine rt_bind_wrap (wpAny_standAt ?_)
  exact rt_bind_wrap h
theorem rt_For {tg iter : Expr} {body : List Stmt} {pos : Pos} (hs : ∀ x, foldedSetIterable iter env x = pure x)
    (h : wpAny M (A.over c fs) (eval iter env) (fun x s1 => wpAny M (A.over c fs) (pyIter x) (fun it s2 => ∀ p, RT M A (.forLoop tg it body [] env) (M.den (.forLoop tg it body [] env))
      (.ret (fun r => ((match r with | .ok f => (.pure f : Sem Flow) | .error e => .raise e).onRaise fun (x : Value) => do
        if (← field x 1) == Value.none then unsupported "frame.own-activation:exception-without-traceback"
        setFlight x env.frame).wrap K J gd lv) none (gd false) (lv []) c p [] :: fs) s2 Φ) (fun x s' => RT M A c (J x) fs s' Φ) s1) (fun x s' => RT M A c (J x) fs s' Φ) s) :
    RT M A c ((exec (.For tg iter body [] pos) env).wrap K J gd lv) fs s Φ := by
  rw [exec_For]
  refine rt_bind_wrap (wpAny_standAt ?_)
  refine rt_bind_wrap (wpAny_mono h (fun x s1 h1 => ?_) fun _ _ z => z)
  refine rt_bind_wrap (wpAny_of_eq (hs x) ?_)
  refine rt_bind_wrap (wpAny_standAt ?_)
  refine rt_bind_wrap (wpAny_holding (wpAny_mono h1 (fun it s2 h2 => ?_) fun _ _ z => z))
  exact rt_call h2
theorem rt_Expr_Yield {e : Expr} {ypos pos : Pos} (hfs : splitAtGen fs = none) (hgd : gd false = false)
    (h : wpAny M (A.over c fs) (eval e env) (fun v s' => ∀ (l : List Value) (k : Resume → Sem PySem.Fin) (p : Pos), (∀ s'' Φ', RT M A c (K .next) fs s'' Φ' → RT M A c (k (.send .none)) fs s'' Φ') → Φ (.susp v false l k c p fs) s')
      (fun x s' => RT M A c (J x) fs s' Φ) s) (hco : env.scope.isCoroutine = false := by rfl) (hi : interactive env = false := by rfl) :
    RT M A c ((exec (.Expr (.Yield (some e) ypos) pos) env).wrap K J gd lv) fs s Φ := by
  rw [exec_Expr env _ pos hi rfl]
  show RT M A c (.at pos fun _ => ((eval e env >>= fun v => (standAt ypos >>= fun _ => yieldOut env v)) >>= fun x => dropValue (.Yield (some e) ypos) pos x).wrap K J gd lv) fs s Φ
  have hy : ∀ v, yieldOut env v = yieldValue v := fun v => by simp only [yieldOut, hco, Bool.false_eq_true, if_false]
  simp only [hy]
  refine rt_at ?_
  rw [Sem.bind_eq_wrap', Sem.bind_eq_wrap', Sem.wrap_wrap, Sem.wrap_wrap]
  refine rt_wrap (wpAny_mono h (fun v s' h' => ?_) fun _ _ x => x)
  refine rt_at ?_
  unfold yieldValue
  refine rt_yield hfs fun p => ?_
  have q : ∀ {g : Bool} (l : List Value) (k : Resume → Sem PySem.Fin), g = false → (∀ s'' Φ', RT M A c (K .next) fs s'' Φ' → RT M A c (k (.send .none)) fs s'' Φ') → Φ (.susp v g l k c p fs) s' := fun l k e z => by rw [e]; exact h' l k p z
  refine q _ _ hgd fun s'' Φ' z => ?_
  exact z
end
end
section
variable {prog : Program} {w : World} {A : Around} {fs : List Frame} {s : Shared} {env : Env} {Φ : End → Shared → Prop}
theorem rt_func {body : List Stmt}
    (h : RT (model prog w) A (.func body env) ((execs body env).wrap (fun f => .pure (.done (.ret (match f with | .ret v => v | _ => .none))))
      (fun e => (leaving env e).wrap (fun _ => .raise e) .raise id id) id id) fs s Φ) :
    RT (model prog w) A (.func body env) ((model prog w).den (.func body env)) fs s Φ := by
  show RT _ A _ (.point [] fun _ => ((execs body env).onRaise (leaving env)) >>= _) fs s Φ
  refine rt_point ?_
  rw [Sem.onRaise_eq_wrap, Sem.bind_eq_wrap', Sem.wrap_wrap]
  rw [Sem.wrap_congr (execs body env) _ _ (K' := fun f => .pure (.done (.ret (match f with | .ret v => v | _ => .none))))
    (H' := fun e => (leaving env e).wrap (fun _ => .raise e) .raise id id) (fun f => by cases f <;> rfl)
    (fun e => by rw [Sem.bind_eq_wrap, Sem.wrap_wrap]; rfl)]
  exact h
/-- what a loop's code does with an exception -/
abbrev loopJ (env : Env) (x : Value) : Sem PySem.Fin := (do noteFrame x env; theTreesLotGoes x : Sem Unit).wrap (fun _ => .raise x) .raise id id
theorem rt_forLoop {tg : Expr} {it : Value} {body : List Stmt}
    (h : wpAny (model prog w) (A.over (.forLoop tg it body [] env) fs) (pyNext it) (fun r s1 => match r with
        | none => RT (model prog w) A (.forLoop tg it body [] env) (.pure (.again (.block [] env))) fs s1 Φ
        | some v => wpAny (model prog w) (A.over (.forLoop tg it body [] env) fs) (letOwnedTupleGo tg it v) (fun _ s2 => wpAny (model prog w) (A.over (.forLoop tg it body [] env) fs) (assign tg env v) (fun _ s3 =>
            RT (model prog w) A (.forLoop tg it body [] env) ((execs body env).wrap (fun f => match f with
              | .next | .cont => .pure (.again (.forLoop tg it body [] env))
              | .brk => .pure (.done .next)
              | .ret v => .pure (.done (.ret v))) (loopJ env) id id) fs s3 Φ)
          (fun x s' => RT (model prog w) A (.forLoop tg it body [] env) (loopJ env x) fs s' Φ) s2)
          (fun x s' => RT (model prog w) A (.forLoop tg it body [] env) (loopJ env x) fs s' Φ) s1)
      (fun x s' => RT (model prog w) A (.forLoop tg it body [] env) (loopJ env x) fs s' Φ) s) :
    RT (model prog w) A (.forLoop tg it body [] env) ((model prog w).den (.forLoop tg it body [] env)) fs s Φ := by
  show RT _ A _ ((forTurn tg it body [] env).onRaise (fun x => do noteFrame x env; theTreesLotGoes x)) fs s Φ
  have eH : (fun e => ((do noteFrame e env; theTreesLotGoes e : Sem Unit).bind fun _ => (.raise e : Sem PySem.Fin))) = loopJ env := funext fun e => by
    rw [Sem.bind_eq_wrap]
  rw [Sem.onRaise_eq_wrap, eH]
  unfold forTurn
  refine rt_bind_wrap (wpAny_standAt ?_)
  refine rt_bind_wrap (wpAny_onRaise (wpAny_mono h (fun r s1 h1 => ?_) fun _ _ h' => wpAny_standAt h'))
  cases r with
  | none => exact h1
  | some v =>
    refine rt_bind_wrap (wpAny_mono h1 (fun _ s2 h2 => ?_) fun _ _ h' => h')
    refine rt_bind_wrap (wpAny_mono h2 (fun _ s3 h3 => ?_) fun _ _ h' => h')
    rw [Sem.bind_eq_wrap', Sem.wrap_wrap]
    rw [Sem.wrap_congr (execs body env) _ _ (K' := fun f => match f with
              | .next | .cont => .pure (.again (.forLoop tg it body [] env))
              | .brk => .pure (.done .next)
              | .ret v => .pure (.done (.ret v))) (H' := loopJ env)
        (fun f => by cases f <;> rfl) (fun e => by rfl)]
    exact h3
theorem rt_block0 {c : Code} (h : RT (model prog w) A (.block [] env) (.pure (.done .next)) fs s Φ) : RT (model prog w) A c (.pure (.again (.block [] env))) fs s Φ := by
  refine rt_again rfl ?_
  exact h
/-- one turn of a generator -/
theorem next_gen {ad : Addr} {g : Nat} {Q : Option Value → Shared → Prop} {E : Value → Shared → Prop} (hh : A.handled = none) (hl : s.heap.NoLimit) (hroom : A.depth < recursionLimit) (hg : s.heap.IsGen ad g)
    (hgo : (∃ c, s.gens[g]? = some (.fresh c) ∧ RT (model prog w) A.in1 c ((model prog w).den c) [] (s.setGen g .running) Φ) ∨
      ∃ k l c p fs cl, s.gens[g]? = some (.suspended k l c p fs cl) ∧ RT (model prog w) A.in1 c (k (.send .none)) fs (s.setGen g .running) Φ)
    (hΦ : ∀ e s₁, Φ e s₁ → (∃ v l k c p fs, e = .susp v false l k c p fs ∧ fs.any Frame.guarded = false ∧ Q (some v) (s₁.setGen g (.suspended k l c p fs false))) ∨
      ((e = .ret (.ok (.ret .none)) ∨ e = .ret (.ok .next)) ∧ ∀ h', (∀ b o, s₁.heap.get? b = some o → h'.get? b = some o) → Q none { s₁.setGen g .finished with heap := h' }) ∨
      ∃ u, e = .ret (.error u) ∧ s₁.heap.IsGen ad g ∧ NotStop (model prog w) u s₁.heap ∧ E u (s₁.setGen g .finished)) :
    wpAny (model prog w) A (pyNext (.ref ad)) Q E s := by
  unfold pyNext
  refine wpAny_bind (wpAny_attempt (wpAny_callSpecial?_slot (name := Str.ofString "__next__") hg.typeIs slot_gen_next
    (wpAny_call_entry slot_gen_next hg.typeIs entry_gen_next ?_ (args_gen_next _))))
  show wpAny _ A.in1 (Builtin.Generator.genWake (.ref ad) (.send .none)) _ _ s
  unfold Builtin.Generator.genWake
  have main : ∀ (k : GenResult → Sem PySem.Fin) (Q2 : PySem.Fin → Shared → Prop) (E2 : Value → Shared → Prop) (l : List Value),
      (∀ e s₁, Φ e s₁ → e.quiet = true ∧ wpAny (model prog w) A.in1 (k e.result) Q2 E2 (s₁.setGen g e.genState)) → wpAny (model prog w) A.in1 (.resume g (.send .none) l k) Q2 E2 s := by
    intro k Q2 E2 l hk Γ p hΓ
    rw [Sem.wp_resume]
    rcases hgo with ⟨c, hs, hr⟩ | ⟨k₀, l₀, c, p₀, fs, cl, hs, hr⟩
    · obtain ⟨e, s₁, r, f⟩ := hr (Γ.wake c p) p rfl (hΓ.wake c p)
      obtain ⟨q1, q2⟩ := hk e s₁ f
      exact ⟨_, _, by unfold Wakes; rw [hs]; exact ⟨e, s₁, r, q1, rfl, rfl⟩, q2 Γ p hΓ⟩
    · obtain ⟨e, s₁, r, f⟩ := hr (Γ.wake c p) p₀ rfl (hΓ.wake c p)
      obtain ⟨q1, q2⟩ := hk e s₁ f
      exact ⟨_, _, by unfold Wakes; rw [hs]; exact ⟨e, s₁, r, q1, rfl, rfl⟩, q2 Γ p hΓ⟩
  have gst : ∃ gs, s.gens[g]? = some gs ∧ (gs.status = .fresh ∨ gs.status = .suspended) := by
    rcases hgo with ⟨c, hs, _⟩ | ⟨k₀, l₀, c, p₀, fs, cl, hs, _⟩
    · exact ⟨_, hs, .inl rfl⟩
    · exact ⟨_, hs, .inr rfl⟩
  obtain ⟨gs, hgs, hst⟩ := gst
  refine wpAny_bind (wpAny_holding (wpAny_genNumber hg (wpAny_bind (wpAny_genState hgs ?_))))
  cases gs with
  | running => rcases hst with h | h <;> cases h
  | finished => rcases hst with h | h <;> cases h
  | _ =>
    refine wpAny_bind (wpAny_roomToWake hl hroom ?_)
    refine main _ _ _ _ fun e s₁ hf => ?_
    rcases hΦ e s₁ hf with ⟨v, l, k, c, p, fs, rfl, hfg, hq⟩ | ⟨hr, hp⟩ | ⟨u, rfl, hg1, hns, hq⟩
    · refine ⟨by simp [End.quiet, hfg], ?_⟩
      have e1 : (End.susp v false l k c p fs).genState = .suspended k l c p fs false := by simp [End.genState, hfg]
      rw [e1]
      exact wpAny_pure ⟨v, rfl, wpAny_pure hq⟩
    · have hres : e.result = .returned .none := by
        rcases hr with hr | hr <;> rw [hr] <;> rfl
      have hgs' : e.genState = .finished := by
        rcases hr with hr | hr <;> rw [hr] <;> rfl
      refine ⟨by rcases hr with hr | hr <;> rw [hr] <;> rfl, ?_⟩
      rw [hgs']
      first | rw [hres] | simp only [hres]
      show wpAny _ A.in1 (newExc (.type "StopIteration") [] >>= _) _ _ _
      refine wpAny_bind ?_
      simp only [newExc, newTuple]
      refine wpAny_bind (wpAny_newObj_type ?_ (by size_fits))
      refine wpAny_bind (m := firstArgMember _ _) (wpAny_of_eq (a := Value.none) (by first | rfl | (simp only [firstArgMember]; rfl)) ?_)
      refine wpAny_newObj_type ?_ (by size_fits)
      simp only [raiseNew]
      refine wpAny_bind (wpAny_bind (wpAny_handled ?_))
      first | rw [show A.in1.handled = none from hh] | rw [hh]
      refine wpAny_throw ?_
      refine wpAny_bind (wpAny_isInstance (T := "StopIteration") (b := true) ⟨_, Heap.get?_push_size _ rfl, rfl⟩ isSubtype_stop ?_)
      exact wpAny_pure (hp _ fun b o hb => Heap.get?_push_of_some _ (Heap.get?_push_of_some _ hb))
    · refine ⟨rfl, ?_⟩
      obtain ⟨o, nm, qn, ho, hc, hd, hsl⟩ := hg1
      show wpAny _ A.in1 (Builtin.Generator.genLeft (.ref ad) u) _ _ _
      unfold Builtin.Generator.genLeft Builtin.Generator.madeByALambda
      refine wpAny_bind (wpAny_bind (wpAny_load (o := o) ho (wpAny_pure ?_)))
      refine wpAny_bind (hns _ _ _ _ rfl ?_)
      rw [Bool.and_false, if_neg Bool.false_ne_true]
      unfold Builtin.Generator.genEscaped
      first
        | refine wpAny_bind (hns _ _ _ _ rfl ?_)
        | refine wpAny_bind (wpAny_pure (wpAny_bind (hns _ _ _ _ rfl ?_)))
      rw [if_pos (show (!false) = true from rfl)]
      first
        | refine wpAny_throw ?_
        | refine wpAny_bind (wpAny_throw ?_)
      refine wpAny_bind (hns _ _ _ _ rfl ?_)
      rw [if_neg Bool.false_ne_true]
      exact wpAny_throw hq
end
end LV
namespace LV
open PySem PySem.Spec L2 GenW PyProof.Rows
/-- what is fixed for a generator and the one that walks it -/
structure Ac where
  P : Program
  w : World
  K : PySem.W.Frag
  mg : Str → Option Value
  base : Heap
  A : Around
  outer : List Env
  n0 : Nat
  gn : Nat
abbrev Ac.md (a : Ac) : Md := ⟨a.K, a.mg, a.w⟩
def trunc (n : Nat) (s : Shared) : Shared := { s with heap := { s.heap with objs := s.heap.objs.extract 0 n } }
theorem trunc_size {n : Nat} {s : Shared} (h : n ≤ s.heap.objs.size) : (trunc n s).heap.objs.size = n := by
  show (s.heap.objs.extract 0 n).size = n
  simp; omega
theorem trunc_low {n : Nat} {s : Shared} {b : Nat} (h : b < n) : (trunc n s).heap.get? b = s.heap.get? b := by
  have e : (trunc n s).heap.objs[b]? = s.heap.objs[b]? := by
    show (s.heap.objs.extract 0 n)[b]? = _
    rw [Array.getElem?_extract]
    by_cases hb : b < s.heap.objs.size
    · rw [if_pos (by omega), Nat.zero_add]
    · rw [if_neg (by omega), Array.getElem?_eq_none (by omega)]
  unfold Heap.get?
  rw [e]
theorem trunc_some {n : Nat} {s : Shared} {b : Nat} {o : Obj} (h : (trunc n s).heap.get? b = some o) : b < n ∧ s.heap.get? b = some o := by
  have hb : b < n := by
    have h1 : b < (trunc n s).heap.objs.size := Heap.lt_size h
    have h2 : (trunc n s).heap.objs.size ≤ n := by
      show (s.heap.objs.extract 0 n).size ≤ n
      simp; omega
    omega
  exact ⟨hb, (trunc_low hb) ▸ h⟩
/-- when a sleeping generator is woken -/
structure Wake (ac : Ac) (x : Option Xn) (rem : List D) (F : Hp) (pvs : List (Addr × Obj)) (pgs : List (Nat × GenState)) (s : Shared) (F' H' : Hp) (E : XK) : Prop where
  fs : Same F F'
  sub : Same F' H'
  e0 : Env0 ac.P ac.w ac.K ac.mg ac.base ac.A ac.outer s H'
  n0 : ac.n0 ≤ s.heap.objs.size
  bz : ac.base.objs.size ≤ ac.n0
  fr : ∀ b : Nat, b ∈ frs ac.outer → b < ac.n0
  pv : ∀ p ∈ pvs, s.heap.get? p.1 = some p.2 ∧ H' p.1 = none
  pg : ∀ p ∈ pgs, s.gens[p.1]? = some p.2
  gz : ac.gn ≤ s.gens.size
  junk : ∀ (b : Nat) (o : Obj), ac.n0 ≤ b → s.heap.get? b = some o → H' b = none → ∃ p ∈ pvs, p.1 = b
  he : rem = [] → ∀ xx F2 H2 cls d, x = some xx → Evo Nob Nob F' H' F2 H2 → Same F2 H2 → XOk ac.md F2 xx cls d → E cls d H2
/-- at a halt -/
structure Post (ac : Ac) (s : Shared) (F H : Hp) (F' H' : Hp) (s' : Shared) : Prop where
  os : s'.os = s.os
  bare : AllBare s'.gens
  un : Un (frs ac.outer) [] H H' (trunc ac.n0 s).heap s'.heap
  hok : HOk ac.P ac.w H' s'.heap
  ev : Evo Nob Nob F H F' H'
  sub : Same F' H'
/-- what a generator's own objects and generators are, while it sleeps -/
structure Own0 (ac : Ac) (pvs : List (Addr × Obj)) (pgs : List (Nat × GenState)) (H' : Hp) (s' : Shared) : Prop where
  pv : ∀ p ∈ pvs, s'.heap.get? p.1 = some p.2 ∧ H' p.1 = none ∧ ac.n0 ≤ p.1 ∧ ∀ v, p.2.data ≠ .cell v
  pg : ∀ p ∈ pgs, Sl p.2 ∧ s'.gens[p.1]? = some p.2 ∧ ac.gn ≤ p.1
/-- from a wake-up to the next halt: the items that are still to be handed out, how it ends -/
def GPhi (ac : Ac) (x : Option Xn) : List D → Shared → Hp → Hp → XK → End → Shared → Prop
  | [], s, F, H, E, e, s' => (x = none ∧ (e = .ret (.ok (.ret .none)) ∨ e = .ret (.ok .next)) ∧ ∃ F' H', Post ac s F H F' H' s') ∨ ∃ u, e = .ret (.error u) ∧ CX ac.P ac.w ac.outer H (trunc ac.n0 s) E u s'
  | d :: rem, s, F, H, _, e, s' => ∃ v u l k c p fs F' H' pv pg, e = .susp u false l k c p fs ∧ fs.any Frame.guarded = false ∧ Post ac s F H F' H' s' ∧ RelV v u ∧ Rep ac.md F' v d ∧ Own0 ac pv pg H' s' ∧
      ∀ s2 F2 H2 E2, Wake ac x rem F' pv pg s2 F2 H2 E2 → RT (model ac.P ac.w) ac.A c (k (.send .none)) fs s2 (GPhi ac x rem s2 F2 H2 E2)
def known (o : Obj) : HO := .frz o (.ext fun _ => True)
def jk (n0 : Nat) (pa : List Addr) (s : Shared) (H : Hp) : Hp := fun (b : Nat) => match H b with
  | some u => some u
  | none => if n0 ≤ b ∧ b ∉ pa then (s.heap.get? b).map known else none
def jkF (n0 : Nat) (pa : List Addr) (s : Shared) (H F : Hp) : Hp := fun (b : Nat) => match H b with
  | some _ => F b
  | none => if n0 ≤ b ∧ b ∉ pa then (s.heap.get? b).map known else none
section
variable {n0 : Nat} {pa : List Addr} {s : Shared} {H F : Hp} {b : Nat}
theorem jk_old {u : HO} (h : H b = some u) : jk n0 pa s H b = some u := by unfold jk; rw [h]
theorem jkF_old {u : HO} (h : H b = some u) : jkF n0 pa s H F b = F b := by unfold jkF; rw [h]
theorem jk_none (h : jk n0 pa s H b = none) : H b = none := by
  cases e : H b with
  | none => rfl
  | some u => rw [jk_old e] at h; cases h
theorem jk_low (h : b < n0) : jk n0 pa s H b = H b := by
  unfold jk
  split
  · rename_i e; rw [e]
  · rename_i e; rw [if_neg (by omega), e]
theorem jk_pv (h : b ∈ pa) : jk n0 pa s H b = H b := by
  unfold jk
  split
  · rename_i e; rw [e]
  · rename_i e; rw [if_neg (fun z => z.2 h), e]
theorem jk_new {u : HO} (h : jk n0 pa s H b = some u) (hn : H b = none) : ∃ o, s.heap.get? b = some o ∧ u = known o ∧ n0 ≤ b ∧ b ∉ pa ∧ ∀ F, jkF n0 pa s H F b = some u := by
  have h0 := h
  unfold jk at h
  rw [hn] at h
  dsimp only at h
  split at h
  · rename_i hc
    cases e : s.heap.get? b with
    | none => rw [e] at h; cases h
    | some o =>
      rw [e] at h
      cases h
      refine ⟨o, rfl, rfl, hc.1, hc.2, fun F => ?_⟩
      unfold jkF
      rw [hn, e]
      dsimp only
      rw [if_pos hc]
      rfl
  · cases h
theorem jk_junk {o : Obj} (h : n0 ≤ b) (e : s.heap.get? b = some o) (hn : jk n0 pa s H b = none) : b ∈ pa := by
  have hH := jk_none hn
  unfold jk at hn
  rw [hH, e] at hn
  dsimp only at hn
  split at hn
  · cases hn
  · rename_i hc
    exact Classical.byContradiction fun z => hc ⟨h, z⟩
theorem jkF_same (sm : Same F H) : Same F (jkF n0 pa s H F) := fun b u h => by rw [jkF_old (sm _ _ h)]; exact h
theorem jk_sub (sm : Same F H) : Same (jkF n0 pa s H F) (jk n0 pa s H) := fun b u h => by
  cases e : H b with
  | some v =>
    rw [jkF_old e] at h
    rw [jk_old e]
    have := sm _ _ h
    rw [e] at this; exact this
  | none =>
    unfold jkF at h
    rw [e] at h
    unfold jk
    rw [e]
    exact h
theorem jk_evo (A : Addr → Prop) (sm : Same F H) : Evo A A F H (jkF n0 pa s H F) (jk n0 pa s H) :=
  ⟨jkF_same sm, fun b o h => by
    cases e : H b with
    | some v => rw [jkF_old e] at h; exact .inl h
    | none => exact .inr (.inl rfl), fun b o h _ => jk_old h, fun b o h => ⟨o, jk_old h⟩, fun _ h => .inl h⟩
theorem jk_hok {P : Program} {w : World} (h : HOk P w H s.heap) : HOk P w (jk n0 pa s H) s.heap := fun b u e => by
  cases q : H b with
  | some v =>
    rw [jk_old q] at e
    cases e
    exact (h b _ q).stay (fun _ _ _ z => z) (fun _ z => jk_old z) (fun _ _ z => jk_old z)
  | none =>
    obtain ⟨o, h1, rfl, _⟩ := jk_new e q
    exact ⟨h1, trivial, ⟨o, h1⟩, fun _ _ _ _ => trivial⟩
theorem jk_rel {M : Md} {c : Ct} {σ : L2.St} {env : En} (R : Rel M c F H σ env) : Rel M c (jkF n0 pa s H F) (jk n0 pa s H) σ env :=
  R.evo (jk_evo _ R.sub) (jk_sub R.sub)
theorem inv_gens {X : Cx} {pins : List (Addr × Obj)} {σ : L2.St} {s s' : Shared} (I : Inv X pins σ H s) (hh : s'.heap = s.heap) (ho : s'.os = s.os) (hb : AllBare s'.gens) : Inv X pins σ H s' :=
  ⟨I.ok, ho.trans I.os, hb, hh ▸ I.base, hh ▸ I.loc, hh ▸ I.cell, I.free, I.freeC, hh ▸ I.pin, hh ▸ I.hok, I.len⟩
theorem inv_jk {X : Cx} {pins : List (Addr × Obj)} {σ : L2.St} (I : Inv X pins σ H s) (h1 : X.env.locals < n0) (h2 : ∀ x c, X.env.cells.lookup x = some c → c < n0) (h3 : ∀ p ∈ X.pn ++ pins, p.1 < n0) (h4 : X.s_0.heap.objs.size ≤ n0) : Inv X pins σ (jk n0 pa s H) s :=
  ⟨I.ok, I.os, I.bare, ⟨I.base.keep, I.base.slot, fun b o e n hx => by rw [jk_low (Nat.lt_of_lt_of_le (Heap.lt_size e) h4)]; exact I.base.free b o e n hx, I.base.there, fun b xs e => jk_old (I.base.tups b xs e), fun b o u e => jk_old (I.base.frzs b o u e), fun b ps e => by
      obtain ⟨m, q⟩ := I.base.tbls b ps e
      exact ⟨m, jk_old q⟩⟩, I.loc, I.cell, by rw [jk_low h1]; exact I.free, fun x c e => by rw [jk_low (h2 x c e)]; exact I.freeC x c e, fun p hp => by
      obtain ⟨a1, a2, a3⟩ := I.pin p hp
      exact ⟨a1, by rw [jk_low (h3 p hp)]; exact a2, a3⟩, jk_hok I.hok, I.len⟩
end
section
variable {X : Cx} {c : Ct} {ac : Ac} {pins : List (Addr × Obj)} {σ : L2.St} {F H F' H' : Hp} {s s' : Shared}
/-- the walker and the walked fit -/
structure Fit (X : Cx) (ac : Ac) (pins : List (Addr × Obj)) : Prop where
  P : ac.P = X.prog
  w : ac.w = X.w
  K : ac.K = X.K
  mg : ac.mg = X.mg
  base : ac.base = X.base
  outer : ac.outer = X.stack
  fr : ac.A.frames = some X.stack
  loc : X.env.locals < ac.n0
  cells : ∀ (x : Str) (c : Nat), X.env.cells.lookup x = some c → c < ac.n0
  pins : ∀ p ∈ X.pn ++ pins, p.1 < ac.n0
  s0 : X.s_0.heap.objs.size ≤ ac.n0
theorem Fit.frl (f : Fit X ac pins) (I : Inv X pins σ H s) : ∀ b : Nat, b ∈ frs ac.outer → b < ac.n0 := fun b hb => by
  rw [f.outer] at hb
  rcases List.mem_cons.mp (I.stkSub b hb) with e | hb
  · rw [e]; exact f.loc
  · obtain ⟨_, o, ho, _⟩ := I.ok.funs.mem hb
    exact Nat.lt_of_lt_of_le (Heap.lt_size ho) f.s0
/-- the wake-up -/
theorem Fit.wake (f : Fit X ac pins) {x : Option Xn} {rem : List D} {F0 : Hp} {pv : List (Addr × Obj)} {pg : List (Nat × GenState)} {E : XK} (I : Inv X pins σ H s) (sm : Same F H) (hF : Same F0 F) (hn : ac.n0 ≤ s.heap.objs.size)
    (hpv : ∀ p ∈ pv, s.heap.get? p.1 = some p.2 ∧ H p.1 = none) (hpg : ∀ p ∈ pg, s.gens[p.1]? = some p.2) (hgz : ac.gn ≤ s.gens.size)
    (he : rem = [] → ∀ xx F2 H2 cls d, x = some xx → Evo Nob Nob (jkF ac.n0 (pv.map (·.1)) s H F) (jk ac.n0 (pv.map (·.1)) s H) F2 H2 → Same F2 H2 → XOk ac.md F2 xx cls d → E cls d H2) :
    Wake ac x rem F0 pv pg s (jkF ac.n0 (pv.map (·.1)) s H F) (jk ac.n0 (pv.map (·.1)) s H) E := by
  have J : Inv X pins σ (jk ac.n0 (pv.map (·.1)) s H) s := inv_jk I f.loc f.cells f.pins f.s0
  have e0 := J.env0
  refine ⟨fun b u h => jkF_same sm b u (hF b u h), jk_sub sm, ?_, hn, by rw [f.base]; exact Nat.le_trans I.ok.bsz f.s0, f.frl I, fun p hp => ⟨(hpv p hp).1, by rw [jk_pv (List.mem_map_of_mem hp)]; exact (hpv p hp).2⟩, hpg, hgz, fun b o h1 h2 h3 => ?_, he⟩
  · rw [f.P, f.w, f.K, f.mg, f.base, f.outer]
    exact ⟨f.fr, e0.mod, e0.bs, e0.bsz, e0.funs, e0.frf, e0.hok, e0.bare⟩
  · obtain ⟨p, hp, e⟩ := List.mem_map.mp (jk_junk h1 h2 h3)
    exact ⟨p, hp, e⟩
/-- behind a turn: the walker stands as it stood -/
theorem Fit.back (f : Fit X ac pins) {x : Option Xn} {rem : List D} {F0 : Hp} {pv : List (Addr × Obj)} {pg : List (Nat × GenState)} {E : XK} {s1 : Shared} (I : Inv X pins σ H s) (wk : Wake ac x rem F0 pv pg s F H E) (hpv : ∀ p ∈ pv, ac.n0 ≤ p.1) (po : Post ac s F H F' H' s')
    (hs : ∀ b o, s'.heap.get? b = some o → s1.heap.get? b = some o) (ho : s1.os = s'.os) (hb : AllBare s1.gens) : Inv X pins σ H' s1 := by
  have key : ∀ b : Nat, b ∉ pv.map (·.1) → ∀ o, s.heap.get? b = some o → b < ac.n0 ∨ ∃ u, H b = some u := fun b hb o e => by
    by_cases hl : b < ac.n0
    · exact .inl hl
    · cases q : H b with
      | some u => exact .inr ⟨u, rfl⟩
      | none =>
        obtain ⟨p, hp, z⟩ := wk.junk b o (by omega) e q
        exact absurd (z ▸ List.mem_map_of_mem hp) hb
  have low : ∀ {b : Nat} {o : Obj}, b < ac.n0 → s.heap.get? b = some o → (trunc ac.n0 s).heap.get? b = some o := fun h e => (trunc_low h).trans e
  have low2 : ∀ {b : Nat} {o : Obj}, s.heap.get? b = some o → H b = none → b ∉ pv.map (·.1) → b < ac.n0 := fun {b o} e n hx => by
    rcases key b hx o e with z | ⟨u, z⟩
    · exact z
    · rw [n] at z; cases z
  have eo : frs X.stack = frs ac.outer := by rw [f.outer]
  refine I.call' (ch := pv.map (·.1)) (ho.trans po.os) ?_ ?_ hb fun b hb => ?_
  · rw [eo]
    refine Un.trans (h1 := s'.heap) (H1 := H') ⟨fun b o e n hf hx => ?_, fun b o e n hf hx => ?_, fun b o e n hx => ?_, fun b o e hx => ?_, po.un.tups, po.un.frzs, po.un.tbls⟩ (Un.kept hs)
    · exact po.un.keep b o (low (low2 e n hx) e) n hf (List.not_mem_nil)
    · exact po.un.slot b o (low (low2 e n hx) e) n hf (List.not_mem_nil)
    · exact po.un.free b o (low (low2 e n hx) e) n (List.not_mem_nil)
    · rcases key b hx o e with z | ⟨u, z⟩
      · exact po.un.there b o (low z e) (List.not_mem_nil)
      · obtain ⟨u', z'⟩ := po.ev.ht b u z
        have hl := po.hok.lt z'
        have ok := po.hok b u' z'
        cases q : s'.heap.get? b with
        | some o' => exact ⟨o', rfl⟩
        | none =>
          exfalso
          cases u' with
          | lst xs => obtain ⟨_, _, _, _, e⟩ := ok; rw [q] at e; cases e
          | tup xs => obtain ⟨_, _, _, ob, e, _⟩ := ok; rw [q] at e; cases e
          | dK kvs => obtain ⟨_, _, _, _, o, _, _, e, _⟩ := ok; rw [q] at e; cases e
          | dT kvs => obtain ⟨_, _, _, _, o, _, _, e, _⟩ := ok; rw [q] at e; cases e
          | set S n => obtain ⟨o, _, _, _, e, _⟩ := ok; rw [q] at e; cases e
          | ins C dx fs => obtain ⟨_, _, _, e, _⟩ := ok; rw [q] at e; cases e
          | own y => obtain ⟨_, e⟩ := ok; rw [q] at e; cases e
          | xd fs => obtain ⟨_, ⟨_, _, _, e, _⟩, _⟩ := ok; rw [q] at e; cases e
          | rng lo hi => obtain ⟨_, _, _, e⟩ := ok; rw [q] at e; cases e
          | frz ob u => obtain ⟨e, _⟩ := ok; rw [q] at e; cases e
          | tbl ps => exact absurd ((show s'.heap.get? b = some _ from ok).symm.trans q) (by simp)
          | met f y => exact absurd ((show s'.heap.get? b = some _ from ok).symm.trans q) (by simp)
          | ext φ => obtain ⟨_, ⟨_, e⟩, _⟩ := ok; rw [q] at e; cases e
  · rw [← f.P, ← f.w]
    exact po.hok.kept hs
  · obtain ⟨p, hp, rfl⟩ := List.mem_map.mp hb
    have h := hpv p hp
    refine ⟨.inr (Nat.le_trans f.s0 h), fun z => ?_, fun y c e z => ?_, fun q hq z => ?_⟩
    · have := f.loc; rw [← z] at this; exact absurd (Nat.lt_of_lt_of_le this h) (Nat.lt_irrefl _)
    · have := f.cells y c e; rw [z] at this; exact absurd (Nat.lt_of_lt_of_le this h) (Nat.lt_irrefl _)
    · have := f.pins q hq; rw [z] at this; exact absurd (Nat.lt_of_lt_of_le this h) (Nat.lt_irrefl _)
end
end LV
namespace LV
open PySem PySem.Spec L2 GenW PyProof.Rows
structure Act extends Ac where
  N : List Str
  qual : Str
  scope : Scope
  f : Addr
  cd : Value
def Act.env (a : Act) : Env := envOfC a.qual a.scope a.n0 a.f a.cd
def Act.cx (a : Act) (s : Shared) (H : Hp) (E : XK) : Cx := cxOf (L2.CX a.P a.w) a.P a.w a.K a.mg a.base a.N a.qual a.scope a.f a.cd a.A a.outer s H E
abbrev c0 : Ct := ⟨[], [], fun _ => none, fun _ _ _ => False, fun _ => none⟩
section
variable {a : Act} {s sw s' : Shared} {F H Fw Hw F' H' : Hp} {E : XK} {ip : List (Addr × Obj)} {σ : L2.St} {env : En}
theorem Act.cx_env (hs : s.heap.objs.size = a.n0) : (a.cx s H E).env = a.env := by
  show envOfC a.qual a.scope s.heap.objs.size a.f a.cd = _
  rw [hs]; rfl
theorem Act.cx_A (hs : s.heap.objs.size = a.n0) : (a.cx s H E).A = a.A.deeper a.env := by
  show a.A.deeper (envOfC a.qual a.scope s.heap.objs.size a.f a.cd) = _
  rw [hs]; rfl
theorem inv_E {E' : XK} {Hr : Hp} {r : Shared} (I : Inv (a.cx r Hr E) ip σ H s) : Inv (a.cx r Hr E') ip σ H s :=
  ⟨⟨I.ok.mod, I.ok.kind, I.ok.glob, I.ok.blt, I.ok.above, I.ok.inj, I.ok.has, I.ok.cab, I.ok.hd, I.ok.frames, I.ok.stk, I.ok.exf, I.ok.bs, I.ok.bsz, I.ok.noex, I.ok.exfs, I.ok.funs, I.ok.frf⟩, I.os, I.bare, I.base, I.loc, I.cell, I.free, I.freeC, I.pin, I.hok, I.len⟩
theorem Evo.toNob {A' : Addr → Prop} (e : Evo Nob A' F H F' H') : Evo Nob Nob F H F' H' := ⟨e.fs, e.fn, e.hk, e.ht, fun _ h => h.elim⟩
theorem post_of (I : Inv (a.cx (trunc a.n0 sw) Hw E) ip σ H s) (sm : Same F H) (ev : Evo Nob Nob Fw Hw F H) : Post a.toAc sw Fw Hw F H s :=
  ⟨I.os, I.bare, I.base, I.hok, ev, sm⟩
/-- a new root for a generator's frame, at a wake-up -/
theorem inv_wake {x : Option Xn} {rem : List D} {F0 : Hp} {pv : List (Addr × Obj)} {pg : List (Nat × GenState)} {r : Shared} {Hr F2 H2 : Hp} {E2 E3 : XK} {s2 : Shared} {o : Obj} (hc : a.env.cells = []) (hr : r.heap.objs.size = a.n0) (I : Inv (a.cx r Hr E) ip σ H s)
    (ho : s.heap.get? a.n0 = some o) (hpv : (a.n0, o) ∈ pv) (hip : ∀ p ∈ ip, p ∈ pv) (hn : ∀ p : Addr × Obj, p ∈ pv → a.n0 ≤ p.1 ∧ ∀ v, p.2.data ≠ .cell v) (wk : Wake a.toAc x rem F0 pv pg s2 F2 H2 E2) : Inv (a.cx (trunc a.n0 s2) H2 E3) ip σ H2 s2 := by
  have hs : (trunc a.n0 s2).heap.objs.size = a.n0 := trunc_size wk.n0
  have ee : (a.cx r Hr E).env = a.env := Act.cx_env hr
  have e2 : (a.cx (trunc a.n0 s2) H2 E3).env = a.env := Act.cx_env hs
  have eA : (a.cx (trunc a.n0 s2) H2 E3).A = a.A.deeper a.env := Act.cx_A hs
  have noc : ∀ {y : Str} {c : Addr}, a.env.cells.lookup y = some c → False := fun {y c} h => by rw [hc] at h; cases h
  have lo := wk.pv (a.n0, o) hpv
  have fun0 : ∀ {l : List Env}, (∀ b ∈ frs l, b ∈ frs a.outer) → s2.heap.FunFrames a.base l → (trunc a.n0 s2).heap.FunFrames a.base l := by
    intro l
    induction l with
    | nil => intro _ _; trivial
    | cons env r ih =>
      intro hb hl
      obtain ⟨hk, ⟨L, o, hf, hn, ho, hd⟩, hr⟩ := hl
      have hL : L ∈ frs a.outer := hb L (by unfold frs; rw [List.filterMap_cons, hf]; exact List.mem_cons_self)
      exact ⟨hk, ⟨L, o, hf, hn, (trunc_low (wk.fr L hL)).trans ho, hd⟩, ih (fun b hb' => hb b (by unfold frs; rw [List.filterMap_cons, hf]; exact List.mem_cons_of_mem _ hb')) hr⟩
  have loc : a.env.locals = a.n0 := rfl
  refine ⟨⟨wk.e0.mod, I.ok.kind, rfl, rfl, ?_, fun y z c h1 h2 => ?_, fun y hy => ?_, fun y c _ h => ?_, fun _ => ?_, ?_, .inr ⟨rfl, rfl⟩, fun b z => absurd z (List.not_mem_nil), fun b o e => ?_, ?_, fun b _ _ => List.not_mem_nil, fun b z => absurd z (List.not_mem_nil), fun0 (fun _ h => h) wk.e0.funs, wk.e0.frf⟩,
    rfl, wk.e0.bare, ?_, ?_, fun y c h => ?_, ?_, fun y c h => ?_, fun p hp => ?_, wk.e0.hok, I.len⟩
  · rw [e2]
    show (trunc a.n0 s2).heap.objs.size ≤ a.n0
    rw [hs]; exact Nat.le_refl _
  · rw [e2] at h1; exact (noc h1).elim
  · rw [e2] at hy ⊢
    have h3 := I.ok.has y (by rw [ee]; exact hy)
    rw [ee] at h3; exact h3
  · rw [e2] at h; exact (noc h).elim
  · rw [eA]
    have q := I.ok.hd rfl
    rw [Act.cx_A hr] at q
    exact q
  · rw [eA]
    show (a.A.deeper a.env).frames = some ((a.cx (trunc a.n0 s2) H2 E3).env :: a.outer)
    rw [e2]
    exact Around.frames_deeper wk.e0.frames
  · obtain ⟨h1, h2⟩ := wk.e0.bs b o e
    exact ⟨(trunc_low (Nat.lt_of_lt_of_le (Heap.lt_size e) wk.bz)).trans h1, h2⟩
  · show a.base.objs.size ≤ (trunc a.n0 s2).heap.objs.size
    rw [hs]; exact wk.bz
  · exact Un.kept fun b o e => (trunc_some e).2
  · obtain ⟨m, hn', hl⟩ := I.loc
    rw [ee] at hn' hl
    rw [e2]
    obtain ⟨o', es, ep, h1, h2⟩ := hn'
    have h1' : s.heap.get? a.n0 = some o' := h1
    rw [ho] at h1'
    cases h1'
    refine ⟨m, ⟨_, es, ep, lo.1, h2⟩, fun i y v h3 h4 h5 => ?_⟩
    obtain ⟨u, h6, h7⟩ := hl i y v h3 h4 h5
    refine ⟨u, h6, ?_⟩
    rcases h7 with h7 | ⟨_, c, h7, _⟩
    · exact .inl h7
    · exact (noc h7).elim
  · rw [e2] at h; exact (noc h).elim
  · rw [e2]; exact lo.2
  · rw [e2] at h; exact (noc h).elim
  · have hp' : p ∈ ip := by
      rcases List.mem_append.mp hp with z | z
      · exact absurd z (List.not_mem_nil)
      · exact z
    obtain ⟨q1, q2⟩ := wk.pv p (hip p hp')
    obtain ⟨q3, q4⟩ := hn p (hip p hp')
    obtain ⟨_, _, q5, _, _⟩ := I.pin p (List.mem_append_right _ hp')
    refine ⟨q1, q2, ?_, fun z => ?_, q4⟩
    · rw [e2]; rw [ee] at q5; exact q5
    · exact absurd (Nat.lt_of_lt_of_le (wk.fr p.1 z) q3) (Nat.lt_irrefl _)
theorem CX.at {P : Program} {w : World} {outer : List Env} {r : Shared} {u : Value} {z z' : Shared} (h : L2.CX P w outer H r E u z') (hh : z.heap = z'.heap) (ho : z.os = z'.os) (hb : AllBare z'.gens → AllBare z.gens) : L2.CX P w outer H r E u z := by
  obtain ⟨b, B, H', cls, d, h1, h2, h3, h4, h5, h6, h7, h8⟩ := h
  exact ⟨b, B, H', cls, d, h1, hh ▸ h2, h3, hh ▸ h4, h5, ho.trans h6, hb h7, h8⟩
/-- an exception in the air stays there -/
theorem xe_beside {I : Nat → Option GenState} {u : Value} {z z' : Shared} {r : Shared} (pl : Plain z') (b : Beside I z z') (h : (a.cx r H E).xe u z') : (a.cx r H E).xe u z := by
  have h : wpAny (model a.P a.w) (a.A.deeper (envOfC a.qual a.scope r.heap.objs.size a.f a.cd)) (leaving (envOfC a.qual a.scope r.heap.objs.size a.f a.cd) u) (fun _ s'' => L2.CX a.P a.w a.outer H r E u s'') (fun u s'' => L2.CX a.P a.w a.outer H r E u s'') z' := h
  show wpAny (model a.P a.w) (a.A.deeper (envOfC a.qual a.scope r.heap.objs.size a.f a.cd)) (leaving (envOfC a.qual a.scope r.heap.objs.size a.f a.cd) u) (fun _ s'' => L2.CX a.P a.w a.outer H r E u s'') (fun u s'' => L2.CX a.P a.w a.outer H r E u s'') z
  exact wpAny_mono (wpAny_beside pl b h) (fun _ s2 ⟨z2, p2, b2, c2⟩ => CX.at c2 b2.heap.symm b2.os.symm b2.bare) fun _ s2 ⟨z2, p2, b2, c2⟩ => CX.at c2 b2.heap.symm b2.os.symm b2.bare
end
/-- what a generator's statements want: the items still to come -/
structure GKs where
  nx : List D → En → Prop
  rt : List D → En → Prop
  bk : List D → En → Prop
  ct : List D → En → Prop
  ex : List D → Xn → En → Prop
abbrev GSW := GKs → List D → En → Prop
def GKs.at (K : GKs) (rem : List D) : Ks := ⟨K.nx rem, fun r e => r = .fz .non ∧ K.rt rem e, K.bk rem, K.ct rem, K.ex rem⟩
/-- inside a generator's frame -/
structure GIn (a : Act) (x : Option Xn) (F0 : Hp) (ip : List (Addr × Obj)) (pg : List (Nat × GenState)) (sw : Shared) (Fw Hw : Hp) (E : XK) (rem : List D) (F H : Hp) (σ : L2.St) (env : En) (s : Shared) : Prop where
  n0 : a.n0 ≤ sw.heap.objs.size
  he : rem = [] → ∀ xx F2 H2 cls d, x = some xx → Evo Nob Nob Fw Hw F2 H2 → Same F2 H2 → XOk a.md F2 xx cls d → E cls d H2
  I : Inv (a.cx (trunc a.n0 sw) Hw fun _ _ _ => False) ip σ H s
  R : Rel a.md c0 F H σ env
  ev : Evo Nob (Own σ env) Fw Hw F H
  lo : Same F0 F
  pg : ∀ p ∈ pg, Sl p.2 ∧ s.gens[p.1]? = some p.2 ∧ a.gn ≤ p.1
  gz : a.gn ≤ s.gens.size
/-- where its code stands -/
structure GPos (a : Act) (ip : List (Addr × Obj)) (cd : Code) (fs : List Frame) (gd : Bool → Bool) : Prop where
  over : a.A.over cd fs = a.A.deeper a.env
  split : splitAtGen fs = none
  guard : fs.any Frame.guarded = false
  gd : gd false = false
  ip : ∀ p ∈ ip, a.n0 ≤ p.1
  cells : a.env.cells = []
/-- what follows -/
structure GCont (a : Act) (x : Option Xn) (F0 : Hp) (ip : List (Addr × Obj)) (pg : List (Nat × GenState)) (cd : Code) (fs : List Frame) (K : Flow → Sem PySem.Fin) (J : Value → Sem PySem.Fin) (D : GKs) : Prop where
  nx : ∀ sw Fw Hw E rem F H σ env s, GIn a x F0 ip pg sw Fw Hw E rem F H σ env s → D.nx rem env → RT (model a.P a.w) a.A cd (K .next) fs s (GPhi a.toAc x rem sw Fw Hw E)
  bk : ∀ sw Fw Hw E rem F H σ env s, GIn a x F0 ip pg sw Fw Hw E rem F H σ env s → D.bk rem env → RT (model a.P a.w) a.A cd (K .brk) fs s (GPhi a.toAc x rem sw Fw Hw E)
  ct : ∀ sw Fw Hw E rem F H σ env s, GIn a x F0 ip pg sw Fw Hw E rem F H σ env s → D.ct rem env → RT (model a.P a.w) a.A cd (K .cont) fs s (GPhi a.toAc x rem sw Fw Hw E)
  rt : ∀ sw Fw Hw E rem F H s env, Post a.toAc sw Fw Hw F H s → D.rt rem env → RT (model a.P a.w) a.A cd (K (.ret .none)) fs s (GPhi a.toAc x rem sw Fw Hw E)
  xc : ∀ sw Fw Hw (E : XK) rem u s, a.n0 ≤ sw.heap.objs.size → (a.cx (trunc a.n0 sw) Hw (fun c d H => rem = [] ∧ E c d H)).xe u s → RT (model a.P a.w) a.A cd (J u) fs s (GPhi a.toAc x rem sw Fw Hw E)
  ex : ∀ rem xx env, D.ex rem xx env → rem = [] ∧ x = some xx
structure GSt (Pg : List (Nat × GenState) → Prop) (a : Act) (x : Option Xn) (st : Stmt) (w : GSW) : Prop where
  run : ∀ F0 ip pg sw Fw Hw E rem cd fs K J gd (lv : List Value → List Value) F H σ env s D, Pg pg → GPos a ip cd fs gd → GIn a x F0 ip pg sw Fw Hw E rem F H σ env s → GCont a x F0 ip pg cd fs K J D → w D rem env →
    RT (model a.P a.w) a.A cd ((exec st a.env).wrap K J gd lv) fs s (GPhi a.toAc x rem sw Fw Hw E)
structure GSts (Pg : List (Nat × GenState) → Prop) (a : Act) (x : Option Xn) (st : List Stmt) (w : GSW) : Prop where
  run : ∀ F0 ip pg sw Fw Hw E rem cd fs K J gd (lv : List Value → List Value) F H σ env s D, Pg pg → GPos a ip cd fs gd → GIn a x F0 ip pg sw Fw Hw E rem F H σ env s → GCont a x F0 ip pg cd fs K J D → w D rem env →
    RT (model a.P a.w) a.A cd ((execs st a.env).wrap K J gd lv) fs s (GPhi a.toAc x rem sw Fw Hw E)
section
variable {Pg : List (Nat × GenState) → Prop} {a : Act} {x : Option Xn} {st : Stmt} {sts sa sb : List Stmt} {pos yp : Pos} {e : Expr}
def gNil : GSW := fun D rem env => D.nx rem env
theorem gsts_nil : GSts Pg a x [] gNil := ⟨fun F0 ip pg sw Fw Hw E rem cd fs K J gd lv F H σ env s D hP g i k hw => k.nx _ _ _ _ _ _ _ _ _ _ i hw⟩
def gSeq (w1 w2 : GSW) : GSW := fun D rem env => w1 { D with nx := fun rem e => w2 D rem e } rem env
theorem gsts_cons {w1 w2 : GSW} (h1 : GSt Pg a x st w1) (h2 : GSts Pg a x sts w2) : GSts Pg a x (st :: sts) (gSeq w1 w2) := by
  refine ⟨fun F0 ip pg sw Fw Hw E rem cd fs K J gd lv F H σ env s D hP g i k hw => ?_⟩
  refine rt_execs_cons ?_
  refine h1.run F0 ip pg sw Fw Hw E rem cd fs _ J gd lv F H σ env s { D with nx := fun rem e => w2 D rem e } hP g i ⟨fun sw Fw Hw E rem F H σ env s i' h => ?_, k.bk, k.ct, k.rt, k.xc, k.ex⟩ hw
  exact h2.run F0 ip pg sw Fw Hw E rem cd fs K J gd lv F H σ env s D hP g i' k h
end
end LV
namespace LV
open PySem PySem.Spec L2 GenW PyProof.Rows
/-- an exception of this segment: all items are out -/
abbrev eE (rem : List D) (E : XK) : XK := fun c d H => rem = [] ∧ E c d H
section
variable {a : Act} {x : Option Xn} {F0 F H F' H' Fw Hw : Hp} {ip ip' : List (Addr × Obj)} {pg : List (Nat × GenState)} {sw s z z' : Shared} {E : XK} {rem : List D} {σ σ' : L2.St} {env env' : En}
theorem GIn.dead (i : GIn a x F0 ip pg sw Fw Hw E rem F H σ env s) (E' : XK) : Inv (a.cx (trunc a.n0 sw) Hw E') ip σ H (deadS s) := inv_gens (inv_E i.I) rfl rfl (deadS_bare i.I.bare)
theorem GIn.of (i : GIn a x F0 ip pg sw Fw Hw E rem F H σ env s) (b : Beside (slp s) z z') (gz : a.gn ≤ z.gens.size) {E' : XK} (I : Inv (a.cx (trunc a.n0 sw) Hw E') ip' σ' H' z') (R : Rel a.md c0 F' H' σ' env') (ev : Evo Nob (Own σ' env') Fw Hw F' H') (lo : Same F0 F') :
    GIn a x F0 ip' pg sw Fw Hw E rem F' H' σ' env' z :=
  ⟨i.n0, i.he, inv_gens (inv_E I) b.heap.symm b.os.symm (b.bare I.bare), R, ev, lo, fun p hp => by
    obtain ⟨h1, h2, h3⟩ := i.pg p hp
    exact ⟨h1, b.kept h2 h1, h3⟩, gz⟩
/-- a plain step of the frame, in the state as it is -/
theorem GIn.step {α : Type} {t : Sem α} {Q : α → Shared → Prop} (i : GIn a x F0 ip pg sw Fw Hw E rem F H σ env s) (h : wpAny (model a.P a.w) (a.cx (trunc a.n0 sw) Hw (eE rem E)).A t Q (a.cx (trunc a.n0 sw) Hw (eE rem E)).xe (deadS s)) :
    wpAny (model a.P a.w) (a.A.deeper a.env) t (fun v z => ∃ z', Plain z' ∧ Beside (slp s) z z' ∧ a.gn ≤ z.gens.size ∧ Q v z') (a.cx (trunc a.n0 sw) Hw (eE rem E)).xe s := by
  rw [Act.cx_A (trunc_size i.n0)] at h
  exact wpAny_gsz i.gz (wpAny_mono (wpAny_asleep h) (fun v z ⟨z', pl, b, q⟩ gz => ⟨z', pl, b, gz, q⟩) fun u z ⟨z', pl, b, q⟩ _ => xe_beside pl b q)
theorem GIn.exOk (i : GIn a x F0 ip pg sw Fw Hw E rem F H σ env s) {xx : Xn} {cls : Value} {d : Option Addr} (h : rem = [] ∧ x = some xx) (sm : Same F' H') (ev : Evo Nob Nob Fw Hw F' H') (xo : XOk a.md F' xx cls d) : eE rem E cls d H' :=
  ⟨h.1, i.he h.1 xx F' H' cls d h.2 ev sm xo⟩
end
section
variable {Pg : List (Nat × GenState) → Prop} {a : Act} {x : Option Xn} {st : Stmt} {sts sa sb : List Stmt} {pos yp : Pos} {e : Expr}
/-- nothing is owned -/
def NoOw (env : En) : Prop := ∀ (i : Nat) (v : Val), env[i]? = some (some v) → ∃ d, v = .fz d
theorem NoOw.own {env : En} (h : NoOw env) {σ : L2.St} {b : Addr} (o : Own σ env b) : False := by
  obtain ⟨i, o, h1, _⟩ := o
  obtain ⟨d, h2⟩ := h i _ h1
  cases h2
theorem NoOw.rel {M : Md} {F H F' H' : Hp} {σ : L2.St} {env : En} (h : NoOw env) (R : Rel M c0 F H σ env) (hF : Same F F') (sm : Same F' H') : Rel M c0 F' H' σ env := by
  refine ⟨sm, R.len, fun i d hi => ?_, fun i o hi => ?_, fun i b C ks vs hi => ?_, fun i j o u b h1 => ?_, fun i hi => absurd hi List.not_mem_nil, fun b u e => (by cases e), fun i o p hi => ?_, fun i o b hi => ?_, fun b u e => (by cases e)⟩
  · obtain ⟨v, h1, h2⟩ := R.fz i d hi
    exact ⟨v, h1, h2.same hF⟩
  · obtain ⟨d, e⟩ := h i _ hi; cases e
  · obtain ⟨d, e⟩ := h i _ hi; cases e
  · obtain ⟨d, e⟩ := h i _ h1; cases e
  · obtain ⟨d, e⟩ := h i _ hi; cases e
  · obtain ⟨d, e⟩ := h i _ hi; cases e
def gYield (w : EW) : GSW := fun K rem env => wFz w env (fun r e1 => ∃ d e2 rem', rem = d :: rem' ∧ frz1 e1 r = some (d, e2) ∧ NoOw e2 ∧ K.nx rem' e2) (K.ex rem)
theorem gst_yield {w : EW} (h : ∀ (s : Shared) (H : Hp) (E : XK), s.heap.objs.size = a.n0 → SE (a.cx s H E) c0 (fun cls d _ H => E cls d H) e w)
    (hco : a.env.scope.isCoroutine = false := by rfl) (hi : interactive a.env = false := by rfl) : GSt Pg a x (.Expr (.Yield (some e) yp) pos) (gYield w) := by
  refine ⟨fun F0 ip pg sw Fw Hw E rem cd fs K J gd lv F H σ env s D hP g i k hw => ?_⟩
  have hs := h (trunc a.n0 sw) Hw (eE rem E) (trunc_size i.n0)
  refine rt_Expr_Yield g.split g.gd ?_ hco hi
  rw [g.over]
  have run := hs.pe.run ip (deadS s) σ H (fun v H' => ∃ F' env2 d rem', rem = d :: rem' ∧ Rel a.md c0 F' H' σ env2 ∧ Evo Nob (Own σ env2) Fw Hw F' H' ∧ Same F0 F' ∧ Rep a.md F' v d ∧ NoOw env2 ∧ D.nx rem' env2) (i.dead _)
    (opd hs.mo i.R (hs.mo.fz.mo (fun _ _ q => q) (fun xx en q => fun cl d F' H' R' ev ok => i.exOk (k.ex rem xx en q) R'.sub (Evo.toNob (i.ev.trans ev)) ok) hw) fun r e1 v F1 H1 R1 ev1 ok ⟨d, e2, rem', q1, q2, q3, q4⟩ => by
      obtain ⟨F2, R2, ev2, rp⟩ := frz1_ok R1 ok q2
      exact ⟨F2, e2, d, rem', q1, R2, (i.ev.trans ev1).trans ev2, (i.lo.trans ev1.fs).trans ev2.fs, rp, q3, q4⟩)
  rw [Act.cx_env (trunc_size i.n0)] at run
  refine wpAny_mono (i.step run) (fun u zz ⟨z', pl, b, gz, q⟩ l kk p hkk => ?_) fun u zz q => k.xc sw Fw Hw E rem u zz i.n0 q
  obtain ⟨v, H', I', rv, F', env2, d, rem', e1, R', ev', lo', rp, no, q⟩ := q
  subst e1
  have i2 := i.of b gz I' R' ev' lo'
  have hsz := trunc_size i.n0
  -- the frame's own object
  obtain ⟨m, ⟨o, es, ep, ho, hd, _⟩, _⟩ := i2.I.loc
  have ho : zz.heap.get? a.n0 = some o := by
    have e : (a.cx (trunc a.n0 sw) Hw fun _ _ _ => False).env.locals = a.n0 := by rw [Act.cx_env hsz]; rfl
    rw [e] at ho; exact ho
  have hfree : H' a.n0 = none := by
    have e : (a.cx (trunc a.n0 sw) Hw fun _ _ _ => False).env.locals = a.n0 := by rw [Act.cx_env hsz]; rfl
    have q := i2.I.free
    rw [e] at q; exact q
  have hpv : ∀ p : Addr × Obj, p ∈ (a.n0, o) :: ip → zz.heap.get? p.1 = some p.2 ∧ H' p.1 = none ∧ a.n0 ≤ p.1 ∧ ∀ v, p.2.data ≠ .cell v := fun p hp => by
    rcases List.mem_cons.mp hp with hp | hp
    · rw [hp]
      exact ⟨ho, hfree, Nat.le_refl _, fun v q => by rw [hd] at q; cases q⟩
    · obtain ⟨p1, p2, _, _, p3⟩ := i2.I.pin p (List.mem_append_right _ hp)
      exact ⟨p1, p2, g.ip p hp, p3⟩
  refine ⟨v, u, l, kk, cd, p, fs, F', H', (a.n0, o) :: ip, pg, rfl, g.guard, post_of i2.I R'.sub (Evo.toNob ev'), rv, rp, ⟨hpv, i2.pg⟩, fun s2 F2 H2 E2 wk => hkk _ _ ?_⟩
  refine k.nx s2 F2 H2 E2 rem' F2 H2 σ env2 s2 ⟨wk.n0, wk.he, inv_wake g.cells hsz i2.I ho List.mem_cons_self (fun p hp => List.mem_cons_of_mem _ hp) (fun p hp => (hpv p hp).2.2) wk, no.rel R' wk.fs wk.sub, Evo.sub fun b q => (no.own q).elim, lo'.trans wk.fs, fun p hp => ⟨(i2.pg p hp).1, wk.pg p hp, (i2.pg p hp).2.2⟩, wk.gz⟩ q
def gIf (u : TW) (w1 w2 : GSW) : GSW := fun K rem env => u env (fun b e => if b = true then w1 K rem e else w2 K rem e) (K.ex rem)
theorem gst_if {u : TW} {w1 w2 : GSW} (h : ∀ (s : Shared) (H : Hp) (E : XK), s.heap.objs.size = a.n0 → ST (a.cx s H E) c0 (fun cls d _ H => E cls d H) e u) (h1 : GSts Pg a x sa w1) (h2 : GSts Pg a x sb w2) : GSt Pg a x (.If e sa sb pos) (gIf u w1 w2) := by
  refine ⟨fun F0 ip pg sw Fw Hw E rem cd fs K J gd lv F H σ env s D hP g i k hw => ?_⟩
  have hs := h (trunc a.n0 sw) Hw (eE rem E) (trunc_size i.n0)
  refine rt_If ?_
  rw [g.over]
  have run := hs.pt.run ip (deadS s) σ H (fun b H' => ∃ F' env', Rel a.md c0 F' H' σ env' ∧ Evo Nob (Own σ env') Fw Hw F' H' ∧ Same F0 F' ∧ if b = true then w1 D rem env' else w2 D rem env') (i.dead _)
    ⟨F, env, i.R, hs.mo.mo (fun b en q F' H' R' ev => ⟨F', en, R', i.ev.trans ev, i.lo.trans ev.fs, q⟩) (fun xx en q cl d F' H' R' ev ok => i.exOk (k.ex rem xx en q) R'.sub (Evo.toNob (i.ev.trans ev)) ok) hw⟩
  rw [Act.cx_env (trunc_size i.n0)] at run
  refine wpAny_mono (i.step run) (fun b zz ⟨z', pl, be, gz, q⟩ => ?_) fun u zz q => k.xc sw Fw Hw E rem u zz i.n0 q
  obtain ⟨H', I', F', env', R', ev', lo', q⟩ := q
  cases b with
  | true => exact h1.run F0 ip pg sw Fw Hw E rem cd fs K J gd lv F' H' σ env' zz D hP g (i.of be gz I' R' ev' lo') k q
  | false => exact h2.run F0 ip pg sw Fw Hw E rem cd fs K J gd lv F' H' σ env' zz D hP g (i.of be gz I' R' ev' lo') k q
def gLoop (tg : Tg) (body : GSW) (keep : KeepE) (K : GKs) : List D → List D → En → Prop
  | [], rem, env => keep env ∧ K.nx rem env
  | d :: ds, rem, env => keep env ∧ ∃ e1, bindT tg d env = some e1 ∧ body { K with nx := gLoop tg body keep K ds, ct := gLoop tg body keep K ds, bk := K.nx } rem e1
def gFor (tg : Tg) (it : IW) (body : GSW) : GSW := fun K rem env => it env (fun xs keep e => gLoop tg body keep K xs rem e) (K.ex rem)
theorem gpos_loop {ip : List (Addr × Obj)} {c c' : Code} {fs : List Frame} {gd : Bool → Bool} {k : Result → Sem PySem.Fin} {l kp : List Value} {p : Pos} (g : GPos a ip c fs gd) (hw : c'.weight = 0) (hu : c'.cUnits = 0) :
    GPos a ip c' (.ret k none (gd false) l c p kp :: fs) id where
  over := (over_loop hw hu).trans g.over
  split := by
    show (splitAtGen fs).map _ = none
    rw [g.split]; rfl
  guard := by
    show (gd false || fs.any Frame.guarded) = false
    rw [g.gd, g.guard]; rfl
  gd := rfl
  ip := g.ip
  cells := g.cells
theorem owns_cx {s : Shared} {H : Hp} {E : XK} : PassesOwn (model a.P a.w) (a.cx s H E).A (a.cx s H E).env (a.cx s H E).xe := passes_of (X := a.cx s H E) (K := fun e s'' => L2.CX a.P a.w a.outer H s E e s'') (E₁ := fun e s'' => L2.CX a.P a.w a.outer H s E e s'') rfl
/-- an exception leaves the loop's code -/
theorem rt_loopJ {F0 : Hp} {ip : List (Addr × Obj)} {pg : List (Nat × GenState)} {c : Code} {fs : List Frame} {K : Flow → Sem PySem.Fin} {J : Value → Sem PySem.Fin} {D : GKs} {gd : Bool → Bool} {lv : List Value → List Value} {c' : Code} {p : Pos} {l kp : List Value} {sw : Shared} {Fw Hw : Hp} {E : XK} {rem : List _root_.LV.D} {u : Value} {z : Shared}
    (g : GPos a ip c fs gd) (hw : c'.weight = 0) (hu : c'.cUnits = 0) (k : GCont a x F0 ip pg c fs K J D) (hn : a.n0 ≤ sw.heap.objs.size) (hx : (a.cx (trunc a.n0 sw) Hw (eE rem E)).xe u z) :
    RT (model a.P a.w) a.A c' (loopJ a.env u) (.ret (fun r => ((match r with | .ok f => (.pure f : Sem Flow) | .error e => .raise e).onRaise (cameBack a.env)).wrap K J gd lv) none (gd false) l c p kp :: fs) z (GPhi a.toAc x rem sw Fw Hw E) := by
  have hp := owns_cx (a := a) (s := trunc a.n0 sw) (H := Hw) (E := eE rem E) u z hx
  rw [Act.cx_A (trunc_size hn), Act.cx_env (trunc_size hn)] at hp
  refine rt_wrap ?_
  rw [over_loop hw hu, g.over]
  have cb : ∀ (e : Value) (s' : Shared), cameBackBy (model a.P a.w) (a.A.deeper a.env) a.env (a.cx (trunc a.n0 sw) Hw (eE rem E)).xe e s' → RT (model a.P a.w) a.A c' (.raise e) (.ret (fun r => ((match r with | .ok f => (.pure f : Sem Flow) | .error e => .raise e).onRaise (cameBack a.env)).wrap K J gd lv) none (gd false) l c p kp :: fs) s' (GPhi a.toAc x rem sw Fw Hw E) := fun e s' h => by
    refine rt_leaf (.error e) ?_
    show RT _ _ _ (((cameBack a.env e).bind fun _ => (Sem.raise e : Sem Flow)).wrap K J gd lv) _ _ _
    rw [Sem.bind_eq_wrap, Sem.wrap_wrap]
    refine rt_wrap ?_
    rw [g.over]
    exact wpAny_mono h (fun _ s' hx => k.xc sw Fw Hw E rem e s' hn hx) fun x s' hx => k.xc sw Fw Hw E rem x s' hn hx
  refine wpAny_bind (wpAny_mono hp (fun _ s'' hcb => wpAny_theTreesLotGoes ?_) fun y s'' hcb => ?_)
  · exact cb u s'' hcb
  · exact cb y s'' hcb
end
end LV
namespace LV
open PySem PySem.Spec L2 GenW PyProof.Rows
theorem GIn.less {a : Act} {x : Option Xn} {F0 F1 F H Fw Hw : Hp} {ip pl : List (Addr × Obj)} {pg : List (Nat × GenState)} {sw s : Shared} {E : XK} {rem : List D} {σ : L2.St} {env : En} (h : Same F0 F1) (i : GIn a x F1 (ip ++ pl) pg sw Fw Hw E rem F H σ env s) : GIn a x F0 ip pg sw Fw Hw E rem F H σ env s :=
  ⟨i.n0, i.he, i.I.unpinned, i.R, i.ev, h.trans i.lo, i.pg, i.gz⟩
theorem GIn.low {a : Act} {x : Option Xn} {F0 F1 F H Fw Hw : Hp} {ip : List (Addr × Obj)} {pg : List (Nat × GenState)} {sw s : Shared} {E : XK} {rem : List D} {σ : L2.St} {env : En} (h : Same F0 F1) (i : GIn a x F1 ip pg sw Fw Hw E rem F H σ env s) : GIn a x F0 ip pg sw Fw Hw E rem F H σ env s :=
  ⟨i.n0, i.he, i.I, i.R, i.ev, h.trans i.lo, i.pg, i.gz⟩
theorem gst_for {Pg : List (Nat × GenState) → Prop} {a : Act} {x : Option Xn} {pos : Pos} {tgE iter : Expr} {body : List Stmt} {tg : Tg} {it : IW} {gb : GSW} (hi : ∀ (s : Shared) (H : Hp) (E : XK), s.heap.objs.size = a.n0 → SI (a.cx s H E) c0 (fun cls d _ H => E cls d H) tgE iter it)
    (hg : ∀ (s : Shared) (H : Hp) (E : XK), s.heap.objs.size = a.n0 → SG (a.cx s H E) tgE tg) (hb : GSts Pg a x body gb) (hs : ∀ x, foldedSetIterable iter a.env x = pure x := by intro _; rfl) : GSt Pg a x (.For tgE iter body [] pos) (gFor tg it gb) := by
  refine ⟨fun F0 ip pg sw Fw Hw E rem cd fs K J gd lv F H σ env s G hP g i k hw => ?_⟩
  refine rt_For hs ?_
  rw [g.over]
  have h1 := hi (trunc a.n0 sw) Hw (eE rem E) (trunc_size i.n0)
  have run := h1.pi.run ip (deadS s) σ H (fun Jt H1 => ∃ F1 e1 xs keep, Rel a.md c0 F1 H1 σ e1 ∧ Evo Nob (Own σ e1) Fw Hw F1 H1 ∧ Same F0 F1 ∧ Walks a.md c0 F1 Jt xs keep ∧ gLoop tg gb keep G xs rem e1) (i.dead _)
    ⟨F, env, i.R, h1.mo.mo (fun xs keep en q F' H' Jt R' ev wk => ⟨F', en, xs, keep, R', i.ev.trans ev, i.lo.trans ev.fs, wk, q⟩) (fun xx en q cl d F' H' R' ev ok => i.exOk (k.ex rem xx en q) R'.sub (Evo.toNob (i.ev.trans ev)) ok) hw⟩
  rw [Act.cx_env (trunc_size i.n0)] at run
  refine wpAny_mono (i.step run) (fun v z1 ⟨z1', pl1, b1, gz1, q1⟩ => ?_) fun u zz q => k.xc sw Fw Hw E rem u zz i.n0 q
  rw [Act.cx_A (trunc_size i.n0)] at q1
  refine wpAny_mono (wpAny_gsz gz1 (wpAny_mono (wpAny_beside pl1 b1 q1) (fun v z h gz => And.intro gz h) fun u z ⟨z', pl, b, q⟩ _ => xe_beside pl b q)) (fun itv z2 ⟨gz2, z2', pl2, b2, q2⟩ p => ?_) fun u zz q => k.xc sw Fw Hw E rem u zz i.n0 q
  obtain ⟨ita, fp, tn, Jt, H1, e, I2, T, st2, f2, F1, e1, xs, keep, R1, ev1, lo1, wk, lw⟩ := q2
  subst e
  have i2 : GIn a x F1 ip pg sw Fw Hw E rem F1 H1 σ e1 z2 := i.of b2 gz2 I2 R1 ev1 lo1 |> fun j => ⟨j.n0, j.he, j.I, j.R, j.ev, Same.refl _, j.pg, j.gz⟩
  have st2' : tn 0 z2.heap := b2.heap ▸ st2
  have fpn : ∀ b : Nat, b ∈ fp → b ≠ a.n0 ∧ b ∉ frs a.outer ∧ a.n0 ≤ b ∧ ∀ p ∈ ip, p.1 ≠ b := fun b hb => by
    obtain ⟨_, q1, q2, q3, _, q4⟩ := f2 b hb
    rw [Act.cx_env (trunc_size i.n0)] at q1
    refine ⟨q1, q2, ?_, fun p hp => q4 p (List.mem_append_right _ hp)⟩
    rcases q3 with q3 | q3
    · exact absurd q3 List.not_mem_nil
    · have q3 : (trunc a.n0 sw).heap.objs.size ≤ b := q3
      rw [trunc_size i.n0] at q3; exact q3
  have stat : ∀ {sw : Shared} {Hw H : Hp} {E : XK}, a.n0 ≤ sw.heap.objs.size → (∀ b ∈ fp, H b = none) → ∀ b ∈ fp, FpOk (a.cx (trunc a.n0 sw) Hw E) ip H b := fun {sw Hw H E} hn hz b hb => by
    obtain ⟨q1, q2, q3, q4⟩ := fpn b hb
    refine ⟨hz b hb, ?_, q2, .inr ?_, fun y c h => ?_, fun p hp => ?_⟩
    · rw [Act.cx_env (trunc_size hn)]; exact q1
    · show (trunc a.n0 sw).heap.objs.size ≤ b
      rw [trunc_size hn]; exact q3
    · rw [Act.cx_env (trunc_size hn), g.cells] at h; cases h
    · rcases List.mem_append.mp hp with z | z
      · exact absurd z List.not_mem_nil
      · exact q4 p z
  have loop : ∀ (n j : Nat) (sw : Shared) (Fw Hw : Hp) (E : XK) (rem : List LV.D) (F H : Hp) (σ : L2.St) (env : En) (s : Shared), n + j = xs.length → GIn a x F1 ip pg sw Fw Hw E rem F H σ env s → tn j s.heap → (∀ b ∈ fp, H b = none) → gLoop tg gb keep G (xs.drop j) rem env →
      RT (model a.P a.w) a.A (.forLoop tgE (.ref ita) body [] a.env) ((model a.P a.w).den (.forLoop tgE (.ref ita) body [] a.env))
        (.ret (fun r => ((match r with | .ok f => (.pure f : Sem Flow) | .error e => .raise e).onRaise (cameBack a.env)).wrap K J gd lv) none (gd false) (lv []) cd p [] :: fs) s (GPhi a.toAc x rem sw Fw Hw E) := by
    intro n
    induction n with
    | zero =>
      intro j sw Fw Hw E rem F H σ env s hj i st hz lw
      have hj : j = xs.length := by omega
      subst hj
      rw [List.drop_length] at lw
      obtain ⟨kp, lw⟩ := lw
      refine rt_forLoop ?_
      rw [over_loop rfl rfl, g.over]
      have run := T.done (a.cx (trunc a.n0 sw) Hw (eE rem E)) rfl rfl rfl rfl _ ip (deadS s) σ H (a.cx (trunc a.n0 sw) Hw (eE rem E)).xe (i.dead _) (stat i.n0 hz) st (wk.stop F H σ env i.R i.lo kp _ (Nat.le_refl _))
      refine wpAny_mono (i.step run) (fun r zz ⟨z', pl, b, gz, er, I'⟩ => ?_) fun u zz q => rt_loopJ g rfl rfl k i.n0 q
      subst er
      refine rt_block0 ?_
      exact rt_leaf (.ok .next) (k.nx _ _ _ _ _ F H σ env zz (GIn.low lo1 (i.of b gz I' i.R i.ev i.lo)) lw)
    | succ n ih =>
      intro j sw Fw Hw E rem F H σ env s hj i st hz lw
      have hlt : j < xs.length := by omega
      have hd : xs.drop j = xs[j] :: xs.drop (j + 1) := List.drop_eq_getElem_cons hlt
      rw [hd] at lw
      obtain ⟨kp, e2, hb2, lw⟩ := lw
      obtain ⟨go, yld⟩ := wk.go F H σ env i.R i.lo kp j xs[j] (List.getElem?_eq_getElem hlt)
      refine rt_forLoop ?_
      rw [over_loop rfl rfl, g.over]
      have hsz := trunc_size i.n0
      have run := T.item (a.cx (trunc a.n0 sw) Hw (eE rem E)) rfl rfl rfl rfl j ip (deadS s) σ H (a.cx (trunc a.n0 sw) Hw (eE rem E)).xe (i.dead _) (stat i.n0 hz) st go
      refine wpAny_mono (i.step run) (fun r z1 ⟨z1', pl1, b1, gz1, u, er, q1⟩ => ?_) fun u zz q => rt_loopJ g rfl rfl k i.n0 q
      subst er
      rw [Act.cx_A hsz] at q1
      refine wpAny_mono (wpAny_gsz gz1 (wpAny_mono (wpAny_beside pl1 b1 q1) (fun v z h gz => And.intro gz h) fun u z ⟨z', pl, b, q⟩ _ => xe_beside pl b q)) (fun _ z2 ⟨gz2, z2', pl2, b2, q2⟩ => ?_) fun u zz q => rt_loopJ g rfl rfl k i.n0 q
      obtain ⟨xv, H5, I5, r5, y5, st5, fr5⟩ := q2
      obtain ⟨F5, s5, ev5, rx⟩ := yld xv H5 y5
      have I5' := I5.pinned (stat i.n0 fr5) (T.obj _ _ st5)
      have ev6 : Evo Nob (Own σ env) Fw Hw F5 H5 := i.ev.trans ev5.nob
      have R5 := i.R.evo ev5 s5
      have pgr := (hg (trunc a.n0 sw) Hw (eE rem E) hsz).pg.run _ z2' σ H5 xv u (fun σ6 H6 => ∃ F6, Rel a.md c0 F6 H6 σ6 e2 ∧ Evo Nob (Own σ6 e2) Fw Hw F6 H6 ∧ Same F1 F6) I5' r5
        (bindT_ok (M := a.md) (c := c0) (fun _ _ h => absurd h List.not_mem_nil) R5 rx hb2 fun vs R6 ow6 => ⟨F5, R6, ev6.trans (Evo.sub ow6), i.lo.trans ev5.fs⟩)
      rw [Act.cx_A hsz, Act.cx_env hsz] at pgr
      refine wpAny_mono (wpAny_gsz gz2 (wpAny_mono (wpAny_beside pl2 b2 pgr) (fun v z h gz => And.intro gz h) fun u z ⟨z', pl, b, q⟩ _ => xe_beside pl b q)) (fun _ z3 ⟨gz3, z3', pl3, b3, q3⟩ => ?_) fun u zz q => rt_loopJ g rfl rfl k i.n0 q
      obtain ⟨σ6, H6, I6, F6, R6, ev7, lo6⟩ := q3
      have i6 : GIn a x F1 (ip ++ pinsAt fp z2'.heap) pg sw Fw Hw E rem F6 H6 σ6 e2 z3 := i.of b3 gz3 I6 R6 ev7 lo6
      have g' : GPos a (ip ++ pinsAt fp z2'.heap) cd fs gd := ⟨g.over, g.split, g.guard, g.gd, fun p hp => by
        rcases List.mem_append.mp hp with hp | hp
        · exact g.ip p hp
        · exact (fpn p.1 (of_pinsAt hp).1).2.2.1, g.cells⟩
      have back : ∀ {sw Fw Hw E rem F H σ env s}, GIn a x F1 (ip ++ pinsAt fp z2'.heap) pg sw Fw Hw E rem F H σ env s → gLoop tg gb keep G (xs.drop (j + 1)) rem env → RT (model a.P a.w) a.A (.forLoop tgE (.ref ita) body [] a.env) (.pure (.again (.forLoop tgE (.ref ita) body [] a.env)))
        (.ret (fun r => ((match r with | .ok f => (.pure f : Sem Flow) | .error e => .raise e).onRaise (cameBack a.env)).wrap K J gd lv) none (gd false) (lv []) cd p [] :: fs) s (GPhi a.toAc x rem sw Fw Hw E) := fun {sw Fw Hw E rem F H σ env s} i7 lw7 => by
        refine rt_again rfl (ih (j + 1) sw Fw Hw E rem F H σ env s (by omega) (GIn.less (Same.refl _) i7) ?_ (fun b hb => ?_) lw7)
        · exact T.keep _ _ _ st5 fun b hb o e => (i7.I.pin (b, o) (List.mem_append_right _ (List.mem_append_right _ (mem_pinsAt hb e)))).1
        · obtain ⟨o, e, d⟩ := T.obj _ _ st5 b hb
          exact (i7.I.pin (b, o) (List.mem_append_right _ (List.mem_append_right _ (mem_pinsAt hb e)))).2.1
      refine hb.run F1 (ip ++ pinsAt fp z2'.heap) pg sw Fw Hw E rem _ _ _ _ id id F6 H6 σ6 e2 z3 { G with nx := gLoop tg gb keep G (xs.drop (j + 1)), ct := gLoop tg gb keep G (xs.drop (j + 1)), bk := G.nx } hP (gpos_loop g' rfl rfl) i6 ⟨fun sw Fw Hw E rem F H σ env s i7 lw7 => back i7 lw7, fun sw Fw Hw E rem F H σ env s i7 q7 => ?_, fun sw Fw Hw E rem F H σ env s i7 lw7 => back i7 lw7, fun sw Fw Hw E rem F H s env po q7 => ?_, fun sw Fw Hw E rem u s hn hx => ?_, k.ex⟩ lw
      · exact rt_leaf (.ok .next) (k.nx _ _ _ _ _ F H σ env s (GIn.less lo1 i7) q7)
      · exact rt_leaf (.ok (.ret .none)) (k.rt _ _ _ _ _ F H s env po q7)
      · exact rt_loopJ g rfl rfl k hn hx
  exact loop xs.length 0 sw Fw Hw E rem F1 H1 σ e1 z2 (by omega) i2 st2' (fun b hb => (f2 b hb).1) lw
end LV
namespace LV
open PySem PySem.Spec L2 GenW PyProof.Rows
/-- a generator that has not begun or sleeps -/
structure Asl (ac : Ac) (x : Option Xn) (rem : List D) (ad g : Nat) (go : Obj) (F H : Hp) (s : Shared) (pv : List (Addr × Obj)) (pg : List (Nat × GenState)) : Prop where
  isg : ∀ h : Heap, h.get? ad = some go → h.IsGen ad g
  adk : F ad = some (known go)
  gg : g < ac.gn
  gz : ac.gn ≤ s.gens.size
  an : ac.n0 ≤ ad
  own : Own0 ac pv pg H s
  run : (∃ c, s.gens[g]? = some (.fresh c) ∧ ∀ s2 F2 H2 E2, Wake ac x rem F pv pg s2 F2 H2 E2 → RT (model ac.P ac.w) ac.A c ((model ac.P ac.w).den c) [] s2 (GPhi ac x rem s2 F2 H2 E2)) ∨
    ∃ k l c p fs, s.gens[g]? = some (.suspended k l c p fs false) ∧ ∀ s2 F2 H2 E2, Wake ac x rem F pv pg s2 F2 H2 E2 → RT (model ac.P ac.w) ac.A c (k (.send .none)) fs s2 (GPhi ac x rem s2 F2 H2 E2)
theorem okThere {P : Program} {w : World} {H : Hp} {h : Heap} {b : Addr} {u : HO} (ok : ObjOk P w H h b u) : ∃ o, h.get? b = some o := by
  cases u with
  | lst xs => obtain ⟨_, _, _, _, e⟩ := ok; exact ⟨_, e⟩
  | tup xs => obtain ⟨_, _, _, ob, e, _⟩ := ok; exact ⟨_, e⟩
  | dK kvs => obtain ⟨_, _, _, _, o, _, _, e, _⟩ := ok; exact ⟨_, e⟩
  | dT kvs => obtain ⟨_, _, _, _, o, _, _, e, _⟩ := ok; exact ⟨_, e⟩
  | set S n => obtain ⟨o, _, _, _, e, _⟩ := ok; exact ⟨_, e⟩
  | ins C dx fs => obtain ⟨_, _, _, e, _⟩ := ok; exact ⟨_, e⟩
  | own y => obtain ⟨_, e⟩ := ok; exact ⟨_, e⟩
  | xd fs => obtain ⟨_, ⟨_, _, _, e, _⟩, _⟩ := ok; exact ⟨_, e⟩
  | rng lo hi => obtain ⟨_, _, _, e⟩ := ok; exact ⟨_, e⟩
  | frz ob u => obtain ⟨e, _⟩ := ok; exact ⟨_, e⟩
  | tbl ps => exact ⟨_, show h.get? b = some _ from ok⟩
  | met f y => exact ⟨_, show h.get? b = some _ from ok⟩
  | ext φ => obtain ⟨_, ⟨_, e⟩, _⟩ := ok; exact ⟨_, e⟩
/-- the same walker in a heap that lacks what it does not know -/
theorem inv_hide {X : Cx} {pins : List (Addr × Obj)} {σ : L2.St} {H : Hp} {s : Shared} {G : Heap} {pa : List Addr} (I : Inv X pins σ H s) (hG : ∀ b, b ∉ pa → G.get? b = s.heap.get? b) (hn : ∀ b : Nat, b ∈ pa → H b = none ∧ X.s_0.heap.objs.size ≤ b ∧ b ≠ X.env.locals ∧ (∀ x c, X.env.cells.lookup x = some c → c ≠ b) ∧ ∀ p ∈ X.pn ++ pins, p.1 ≠ b) :
    Inv X pins σ H { s with heap := G } := by
  have low : ∀ b : Nat, b < X.s_0.heap.objs.size → b ∉ pa := fun b hb z => absurd (Nat.lt_of_lt_of_le hb (hn b z).2.1) (Nat.lt_irrefl _)
  have lowE : ∀ b o, X.s_0.heap.get? b = some o → G.get? b = s.heap.get? b := fun b o e => hG b (low b (Heap.lt_size e))
  have nl : X.env.locals ∉ pa := fun z => (hn _ z).2.2.1 rfl
  have trk : ∀ {b u}, H b = some u → b ∉ pa := fun {b u} e z => by rw [(hn b z).1] at e; cases e
  refine ⟨I.ok, I.os, I.bare, ⟨fun b o e n hf hx => by rw [show ({ s with heap := G } : Shared).heap = G from rfl, lowE b o e]; exact I.base.keep b o e n hf hx, fun b o e n hf hx => by rw [show ({ s with heap := G } : Shared).heap = G from rfl, lowE b o e]; exact I.base.slot b o e n hf hx, I.base.free, fun b o e hx => by rw [show ({ s with heap := G } : Shared).heap = G from rfl, lowE b o e]; exact I.base.there b o e hx, I.base.tups, I.base.frzs, I.base.tbls⟩, ?_, fun y c h => ?_, I.free, I.freeC, fun p hp => ?_, fun b u e => ?_, I.len⟩
  · obtain ⟨m, ns, hl⟩ := I.loc
    refine ⟨m, ns.at' fun o e => (hG _ nl).trans e, fun i y v h1 h2 h3 => ?_⟩
    obtain ⟨u, r, lk⟩ := hl i y v h1 h2 h3
    refine ⟨u, r, ?_⟩
    rcases lk with lk | ⟨lk, c, e, ob, h4, h5⟩
    · exact .inl lk
    · exact .inr ⟨lk, c, e, ob, (hG c fun z => (hn c z).2.2.2.1 y c e rfl).trans h4, h5⟩
  · obtain ⟨v, ob, h4, h5⟩ := I.cell y c h
    exact ⟨v, ob, (hG c fun z => (hn c z).2.2.2.1 y c h rfl).trans h4, h5⟩
  · obtain ⟨h1, h2⟩ := I.pin p hp
    exact ⟨(hG p.1 fun z => (hn p.1 z).2.2.2.2 p hp rfl).trans h1, h2⟩
  · refine (I.hok b u e).stay (fun c v hc q => ?_) (fun _ q => q) (fun _ _ q => q)
    rcases hc with rfl | hc
    · exact (hG _ (trk e)).trans q
    · exact (hG c (trk hc)).trans q
section
variable {X : Cx} {c : Ct} {ac : Ac} {pins pv : List (Addr × Obj)} {pg : List (Nat × GenState)} {σ : L2.St} {F H : Hp} {s : Shared} {env : En} {x : Option Xn} {rem : List D} {ad g : Nat} {go : Obj} {W : WX}
/-- ONE TURN of a generator, seen by the one who walks it -/
theorem turn_gen {B : Around} {Q : Option Value → Shared → Prop} (f : Fit X ac pins) (hA : ac.A = B.in1) (hh : B.handled = none) (hroom : B.depth < recursionLimit) (I : Inv X pins σ H s) (R : Rel (mdX X) c F H σ env) (z : Asl ac x rem ad g go F H s pv pg) (tk : Takes X W)
    (hns : ∀ xx, x = some xx → ∀ C, X.mg xx.C = some (.ref C) → PySem.W.subIn X.K (.ref C) (.type "StopIteration") = some false)
    (hexc : ∀ xx, rem = [] → x = some xx → ∀ cl d F' H', Rel (mdX X) c F' H' σ env → Evo (Own σ env) (Own σ env) F H F' H' → XOk (mdX X) F' xx cl d → W cl d σ H')
    (hitem : ∀ d rem', rem = d :: rem' → ∀ v u F' H' s' pv' pg', Inv X pins σ H' s' → Rel (mdX X) c F' H' σ env → Evo (Own σ env) (Own σ env) F H F' H' → RelV v u → Rep (mdX X) F' v d → Asl ac x rem' ad g go F' H' s' pv' pg' → (∃ st, s'.gens[g]? = some st ∧ Sl st) → Q (some u) s')
    (hend : rem = [] → x = none → ∀ F' H' s', Inv X pins σ H' s' → Rel (mdX X) c F' H' σ env → Evo (Own σ env) (Own σ env) F H F' H' → Q none s') :
    wpAny (model X.prog X.w) B (pyNext (.ref ad)) Q X.xe s := by
  have hmd : ac.md = mdX X := by show (⟨ac.K, ac.mg, ac.w⟩ : Md) = ⟨X.K, X.mg, X.w⟩; rw [f.K, f.mg, f.w]
  have hm : model ac.P ac.w = model X.prog X.w := by rw [f.P, f.w]
  let sw := s.setGen g .running
  have hsw : sw.heap = s.heap := rfl
  have Iw : Inv X pins σ H sw := inv_gens I rfl rfl (allBare_setGen I.bare rfl)
  have had : s.heap.get? ad = some go := (show _ ∧ _ from I.hok ad _ (R.sub _ _ z.adk)).1
  let pa := pv.map (·.1)
  let Fw := jkF ac.n0 pa sw H F
  let Hw := jk ac.n0 pa sw H
  have Jw : Inv X pins σ Hw sw := inv_jk Iw f.loc f.cells f.pins f.s0
  have Rw : Rel (mdX X) c Fw Hw σ env := jk_rel R
  have evw : Evo Nob Nob F H Fw Hw := jk_evo _ R.sub
  have hpa : ∀ b : Nat, b ∈ pa → H b = none ∧ ac.n0 ≤ b := fun b hb => by
    obtain ⟨p, hp, rfl⟩ := List.mem_map.mp hb
    exact ⟨(z.own.pv p hp).2.1, (z.own.pv p hp).2.2.1⟩
  have hgs : g < s.gens.size := Nat.lt_of_lt_of_le z.gg z.gz
  have hne : ∀ p : Nat × GenState, p ∈ pg → p.1 ≠ g := fun p hp e => by
    have h1 := (z.own.pg p hp).2.2
    have h2 := z.gg
    omega
  have hxe : ∀ (E : XK) (u : Value) (s1 : Shared), E = (fun cls d H2 => (W cls d σ H2 ∧ PySem.W.subIn X.K cls (.type "StopIteration") = some false) ∧ ∀ b u, Hw b = some u → ∃ u', H2 b = some u') → rem = [] → L2.CX ac.P ac.w ac.outer Hw (trunc ac.n0 sw) E u s1 → s1.heap.IsGen ad g ∧ NotStop (model X.prog X.w) u s1.heap ∧ X.xe u (s1.setGen g .finished) := fun E u s1 eE' hr hc => by
    subst eE'
    obtain ⟨b, B, H', cls, d, e1, fl, hok, ub, na, os, ag, hE⟩ := hc
    rw [f.P, f.w] at hok
    rw [f.outer] at ub fl
    have stay : B.StaysIn s1.heap := fl.1
    have hadB : B.get? ad = some go := (show _ ∧ _ from hok ad _ (ub.frzs ad go _ (Rw.sub _ _ ((jkF_old (R.sub _ _ z.adk)).trans z.adk)))).1
    -- the walker's world without what is the generator's own
    obtain ⟨G, g1, g2⟩ := restrict sw.heap fun b => decide (b ∉ pa)
    have hG : ∀ b, b ∉ pa → G.get? b = sw.heap.get? b := fun b hb => g1 b (by simp [hb])
    have hG2 : ∀ b o, G.get? b = some o → b ∉ pa ∧ sw.heap.get? b = some o := fun b o e => by
      by_cases hb : b ∈ pa
      · rw [g2 b (by simp [hb])] at e; cases e
      · exact ⟨hb, (hG b hb) ▸ e⟩
    have IG : Inv X pins σ Hw { sw with heap := G } := inv_hide Jw hG fun b hb => by
      obtain ⟨h1, h2⟩ := hpa b hb
      refine ⟨(jk_pv hb).trans h1, Nat.le_trans f.s0 h2, fun e => ?_, fun y c' h e => ?_, fun p hp e => ?_⟩
      · have := f.loc; rw [← e] at this; exact absurd (Nat.lt_of_lt_of_le this h2) (Nat.lt_irrefl _)
      · have := f.cells y c' h; rw [e] at this; exact absurd (Nat.lt_of_lt_of_le this h2) (Nat.lt_irrefl _)
      · have := f.pins p hp; rw [e] at this; exact absurd (Nat.lt_of_lt_of_le this h2) (Nat.lt_irrefl _)
    have cc : L2.CX X.prog X.w X.stack Hw { sw with heap := G } (fun cls d H2 => (W cls d σ H2 ∧ PySem.W.subIn X.K cls (.type "StopIteration") = some false) ∧ ∀ b u, Hw b = some u → ∃ u', H2 b = some u') u s1 := by
      have low : ∀ {b : Nat} {o : Obj}, b ∉ pa → sw.heap.get? b = some o → Hw b = none → (trunc ac.n0 sw).heap.get? b = some o := fun {b o} hb e n => by
        by_cases hl : b < ac.n0
        · exact (trunc_low hl).trans e
        · exact absurd (jk_junk (n0 := ac.n0) (pa := pa) (s := sw) (H := H) (Nat.le_of_not_lt hl) e n) hb
      refine ⟨b, B, H', cls, d, e1, fl, hok, ⟨fun b o e n hf => ?_, fun b o e hf => ?_, fun b o e n => ?_, fun b o e hf => ?_, ub.tups, ub.frzs, ub.tbls⟩, na, os, ag, hE⟩
      · obtain ⟨h1, h2⟩ := hG2 b o e
        exact ub.keep b o (low h1 h2 n) n hf
      · obtain ⟨h1, h2⟩ := hG2 b o e
        have hl : b < ac.n0 := f.frl I b (by rw [f.outer]; exact hf)
        exact ub.slot b o ((trunc_low hl).trans h2) hf
      · obtain ⟨h1, h2⟩ := hG2 b o e
        exact ub.free b o (low h1 h2 n) n
      · obtain ⟨h1, h2⟩ := hG2 b o e
        by_cases hl : b < ac.n0
        · exact ub.there b o ((trunc_low hl).trans h2) hf
        · cases q : B.get? b with
          | some o' => exact ⟨o', rfl⟩
          | none =>
            exfalso
            cases hw : Hw b with
            | none => exact h1 (jk_junk (n0 := ac.n0) (pa := pa) (s := sw) (H := H) (Nat.le_of_not_lt hl) h2 hw)
            | some u' =>
              obtain ⟨u2, q2⟩ := hE.2 b u' hw
              obtain ⟨o2, q3⟩ := okThere (hok b u2 q2)
              rw [q] at q3; cases q3
    refine ⟨z.isg _ (stay ad go hadB), notStop_of (fun cls d H2 h => h.1.2) ?_ cc, ?_⟩
    · refine I.ok.mod.kin.keeps fun b o eb => stay b o ?_
      have hb : b < ac.n0 := Nat.lt_of_lt_of_le (Heap.lt_size eb) (Nat.le_trans I.ok.bsz f.s0)
      obtain ⟨q1, q2⟩ := Jw.bs b o eb
      refine ub.keep b o ((trunc_low hb).trans q1) q2 fun hm => ?_
      rcases List.mem_cons.mp (I.stkSub b hm) with e | e
      · have h1 := Heap.lt_size eb
        have h2 := Nat.le_trans I.ok.bsz I.ok.above
        rw [e] at h1
        exact absurd (Nat.lt_of_lt_of_le h1 h2) (Nat.lt_irrefl _)
      · exact I.ok.nofr eb e
    · exact tk u _ (XE.of_call IG (fun cls d H' h => h.1.1) (CX.at (z := s1.setGen g .finished) cc rfl rfl fun h => allBare_setGen h rfl))
  have hn : ac.n0 ≤ sw.heap.objs.size := Nat.le_trans z.an (Nat.le_of_lt (Heap.lt_size had))
  have wk : Wake ac x rem F pv pg sw Fw Hw (fun cls d H2 => (W cls d σ H2 ∧ PySem.W.subIn X.K cls (.type "StopIteration") = some false) ∧ ∀ b u, Hw b = some u → ∃ u', H2 b = some u') := by
    refine f.wake Iw R.sub (Same.refl F) hn (fun p hp => ⟨(z.own.pv p hp).1, (z.own.pv p hp).2.1⟩) (fun p hp => ?_) ?_ fun hr xx F2 H2 cls d hx ev sm xo => ?_
    · rw [setGen_get, if_neg (hne p hp)]
      exact (z.own.pg p hp).2.1
    · show ac.gn ≤ (s.setGen g .running).gens.size
      rw [setGen_size]; exact z.gz
    · rw [hmd] at xo
      refine ⟨⟨hexc xx hr hx cls d F2 H2 (Rw.evo ev sm) ((jk_evo _ R.sub).trans ev.nob) xo, ?_⟩, ev.ht⟩
      obtain ⟨C, h1, h2, _⟩ := xo
      rw [h2]
      exact hns xx hx C h1
  have bk : ∀ {F' H' : Hp} {s1 s2 : Shared}, Post ac sw Fw Hw F' H' s1 → (∀ b o, s1.heap.get? b = some o → s2.heap.get? b = some o) → s2.os = s1.os → AllBare s2.gens → Inv X pins σ H' s2 ∧ Rel (mdX X) c F' H' σ env ∧ Evo (Own σ env) (Own σ env) F H F' H' := fun {F' H' s1 s2} po h1 h2 h3 =>
    ⟨f.back Jw wk (fun p hp => (z.own.pv p hp).2.2.1) po h1 h2 h3, Rw.evo po.ev po.sub, (jk_evo _ R.sub).trans po.ev.nob⟩
  refine wpAny_gsz z.gz ?_
  refine next_gen (Φ := GPhi ac x rem sw Fw Hw (fun cls d H2 => (W cls d σ H2 ∧ PySem.W.subIn X.K cls (.type "StopIteration") = some false) ∧ ∀ b u, Hw b = some u → ∃ u', H2 b = some u')) hh I.nolimit hroom (z.isg _ had) ?_ fun e s₁ hf => ?_
  · rw [← hm, ← hA]
    rcases z.run with ⟨c, h1, h2⟩ | ⟨k, l, c, p, fs, h1, h2⟩
    · exact .inl ⟨c, h1, h2 sw Fw Hw _ wk⟩
    · exact .inr ⟨k, l, c, p, fs, false, h1, h2 sw Fw Hw _ wk⟩
  · cases rem with
    | nil =>
      rcases hf with ⟨hx, he, F', H', po⟩ | ⟨u, he, hc⟩
      · refine .inr (.inl ⟨he, fun h' hk hsz => ?_⟩)
        obtain ⟨q1, q2, q3⟩ := bk (s2 := { s₁.setGen g .finished with heap := h' }) po hk rfl (allBare_setGen po.bare rfl)
        exact hend rfl hx F' H' _ q1 q2 q3
      · obtain ⟨q1, q2, q3⟩ := hxe _ u s₁ rfl rfl hc
        exact .inr (.inr ⟨u, he, q1, q2, fun _ => q3⟩)
    | cons d rem' =>
      obtain ⟨v, u, l, k, c', p, fs, F', H', pv', pg', he, hg, po, rv, rp, own, cont⟩ := hf
      refine .inl ⟨u, l, k, c', p, fs, he, hg, fun hsz => ?_⟩
      obtain ⟨q1, q2, q3⟩ := bk (s2 := s₁.setGen g (.suspended k l c' p fs false)) po (fun _ _ h => h) rfl (allBare_setGen po.bare rfl)
      have hsz : ac.gn ≤ (s₁.setGen g (.suspended k l c' p fs false)).gens.size := hsz
      have hsz' := hsz
      rw [setGen_size] at hsz'
      rw [hmd] at rp
      refine hitem d rem' rfl v u F' H' _ pv' pg' q1 q2 q3 rv rp ⟨z.isg, ?_, z.gg, hsz, z.an, ⟨own.pv, fun q hq => ?_⟩, .inr ⟨k, l, c', p, fs, ?_, cont⟩⟩ ⟨.suspended k l c' p fs false, ?_, trivial⟩
      · exact po.ev.fs _ _ ((jkF_old (R.sub _ _ z.adk)).trans z.adk)
      · obtain ⟨o1, o2, o3⟩ := own.pg q hq
        refine ⟨o1, ?_, o3⟩
        have hz := z.gg
        rw [setGen_get, if_neg (by omega)]
        exact o2
      · rw [setGen_get, if_pos rfl, if_pos (Nat.lt_of_lt_of_le z.gg hsz')]
      · rw [setGen_get, if_pos rfl, if_pos (Nat.lt_of_lt_of_le z.gg hsz')]
end
end LV
namespace LV
open PySem PySem.Spec L2 GenW PyProof.Rows
/-- what a generator def hands out, and how it ends -/
abbrev GSpec := List D → List D → Option Xn → Prop
/-- room around a generator that is walked -/
structure RoomW (k : Nat) (A : Around) : Prop where
  hd : A.handled = none
  dp : A.depth + 3 * k + 5 < recursionLimit
  un : A.units + 16 * k + 190 < cLine
  gd : A.guards = some []
theorem RoomW.deeper {k : Nat} {A : Around} (r : RoomW (k + 1) A) (env : Env) : RoomG k (A.deeper env) :=
  ⟨⟨r.hd, by have := r.dp; show A.depth + 1 + 3 * k + 5 < _; omega, by have := r.un; show A.units + 3 + 16 * k + 200 < _; omega⟩, r.gd⟩
theorem RoomG.w1 {k : Nat} {A : Around} (r : RoomG k A) : RoomW k A.in1 := ⟨r.rm.hd, r.rm.dp, by have := r.rm.un; show A.units + 1 + 16 * k + 190 < _; omega, r.gd⟩
theorem RoomW.mono {j k : Nat} {A : Around} (r : RoomW k A) (h : j ≤ k) : RoomW j A := ⟨r.hd, by have := r.dp; omega, by have := r.un; omega, r.gd⟩
/-- what a call of a generator def gives -/
def MadeG (P : Program) (w : World) (K : PySem.W.Frag) (mg : Str → Option Value) (base : Heap) (k : Nat) (outer : List Env) (s : Shared) (F H : Hp) (items : List D) (x : Option Xn) (u : Value) (s' : Shared) : Prop :=
  ∃ (ad g : Nat) (go : Obj) (pv : List (Addr × Obj)) (c : Code), u = .ref ad ∧ g = s.gens.size ∧ g + 1 = s'.gens.size ∧ s.heap.objs.size ≤ ad ∧ s'.heap.get? ad = some go ∧ (∀ h : Heap, h.get? ad = some go → h.IsGen ad g) ∧ s'.os = s.os ∧ AllBare s'.gens ∧ (∀ b o, s.heap.get? b = some o → s'.heap.get? b = some o) ∧
    (∀ p ∈ pv, s'.heap.get? p.1 = some p.2 ∧ s.heap.objs.size ≤ p.1 ∧ p.1 ≠ ad ∧ ∀ v, p.2.data ≠ .cell v) ∧ s'.gens[g]? = some (.fresh c) ∧
    ∀ (AW : Around), RoomW k AW → AW.frames = some outer → ∀ s2 F2 H2 E2, Wake ⟨P, w, K, mg, base, AW, outer, s.heap.objs.size, s'.gens.size⟩ x items F pv [] s2 F2 H2 E2 →
      RT (model P w) AW c ((model P w).den c) [] s2 (GPhi ⟨P, w, K, mg, base, AW, outer, s.heap.objs.size, s'.gens.size⟩ x items s2 F2 H2 E2)
structure GFnG (P : Program) (w : World) (K : PySem.W.Frag) (mg : Str → Option Value) (base : Heap) (k : Nat) (f : Addr) (fd : FuncData) (ps : List Str) (S : GSpec) : Prop where
  len : ∀ ds items x, S ds items x → ds.length = ps.length
  run : ∀ (B : Around) (outer : List Env) (s : Shared) (F H : Hp) (args : Args) (us : List Value) (vs : List V) (ds items : List D) (x : Option Xn), RoomG k B → Env0 P w K mg base B outer s H → BindsTo s fd args (ps.zip us) → Vals vs us → Same F H → RepL ⟨K, mg, w⟩ F vs ds → S ds items x →
    codeAny (model P w) B (.call (.ref f) args) (fun r s' => ∃ u, r = .ok (.ret u) ∧ MadeG P w K mg base k outer s F H items x u s') s
/-- what a generator's body wants in the end -/
def gTop (x : Option Xn) : GKs := ⟨fun rem _ => rem = [] ∧ x = none, fun rem _ => rem = [] ∧ x = none, fun _ _ => False, fun _ _ => False, fun rem xx _ => rem = [] ∧ x = some xx⟩
structure GKeeps (S : GSpec) (np nl : Nat) (w : GSW) : Prop where
  len : ∀ ds items x, S ds items x → ds.length = np
  run : ∀ ds items x, S ds items x → w (gTop x) items (startE nl (ds.map .fz))
theorem rel_start {M : Md} {F H : Hp} {N : List Str} {vs : List V} {ds : List D} (sm : Same F H) (r : RepL M F vs ds) (hn : ds.length ≤ N.length) : Rel M c0 F H (start N vs) (startE N.length (ds.map .fz)) := by
  have at_ : ∀ {i : Nat} {v : Val}, (startE N.length (ds.map .fz))[i]? = some (some v) → ∃ d, v = .fz d ∧ ds[i]? = some d := fun {i v} h => by
    have h := startE_get.mp h
    rw [List.getElem?_map] at h
    cases e : ds[i]? with
    | none => rw [e] at h; cases h
    | some d => rw [e] at h; cases h; exact ⟨d, rfl, rfl⟩
  refine ⟨sm, ?_, fun i d hi => ?_, fun i o hi => ?_, fun i b C ks us hi => ?_, fun i j o u b h1 => ?_, fun i hi => absurd hi List.not_mem_nil, fun b u e => (by cases e), fun i o p hi => ?_, fun i o b hi => ?_, fun b u e => (by cases e)⟩
  · unfold startE L2.start
    simp only [List.length_append, List.length_map, List.length_replicate, r.length]
  · obtain ⟨d', e, h⟩ := at_ hi
    cases e
    obtain ⟨v, h1, h2⟩ := r.get' h
    exact ⟨v, start_get.mpr h1, h2⟩
  · obtain ⟨_, e, _⟩ := at_ hi; cases e
  · obtain ⟨_, e, _⟩ := at_ hi; cases e
  · obtain ⟨_, e, _⟩ := at_ h1; cases e
  · obtain ⟨_, e, _⟩ := at_ hi; cases e
  · obtain ⟨_, e, _⟩ := at_ hi; cases e
theorem noow_start {n : Nat} {ds : List D} : NoOw (startE n (ds.map .fz)) := fun i v h => by
  have h := startE_get.mp h
  rw [List.getElem?_map] at h
  cases e : ds[i]? with
  | none => rw [e] at h; cases h
  | some d => rw [e] at h; cases h; exact ⟨d, rfl⟩
section
variable {P : Program} {w : World} {K : PySem.W.Frag} {mg : Str → Option Value} {base : Heap}
/-- THE RULE: a generator def by its body -/
theorem gfn_lv {x qual : Str} {st : Stmt} {f : Addr} {fd : FuncData} {N ps : List Str} {k : Nat} {S : GSpec} {gw : GSW} (Fn : Fun K x qual st f fd) (Sc : GScope N ps (defScope st)) (hcell : ∀ n, cellsFrom n (defScope st).names [] = []) (kp : GKeeps S ps.length N.length gw)
    (hbody : ∀ (cdv : Value) (AW : Around) (outer : List Env) (n0 gn : Nat) (y : Option Xn), (∀ env, RoomG k (AW.deeper env)) → GSts (· = []) ⟨⟨P, w, K, mg, base, AW, outer, n0, gn⟩, N, qual, defScope st, f, cdv⟩ y (defBody st) gw) :
    GFnG P w K mg base (k + 1) f fd ps S := by
  have hpl : ps.length ≤ N.length := by have := congrArg List.length Sc.pre; rw [List.length_take] at this; omega
  obtain ⟨oc, od, kV, doc, pm, an, cdv, ct, osl, rfl, lk, hcd⟩ := Fn.ex
  refine ⟨kp.len, fun B outer s F H args us vs ds items y hr e0 hb r sm rp hS => ?_⟩
  have hl : vs.length = ps.length := rp.length.trans (kp.len _ _ _ hS)
  have KX : K.In s.heap := e0.mod.kin.keeps fun b o e => (e0.bs b o e).1
  have lim : s.heap.NoLimit := e0.mod.nolimit.keeps fun b o e => (e0.bs b o e).1
  refine codeAny_call_generator hr.rm.depth (KX _ _ lk) rfl Sc.co Sc.gen rfl (PySem.W.codeRec_of KX hcd) (hb _ _ _ _ ?_)
  refine wpAny_newFunctionEnv_cells Sc.kind (fun ⟨n, v⟩ hy => ?_) fun env he s1 xx => ?_
  · rcases Sc.par n (List.of_mem_zip hy).1 with q | q
    · exact .inl q
    · exact .inr ⟨q, PySem.W.cellsFrom_some _ _ _ (.inl q)⟩
  subst he
  have lim1 : s1.heap.NoLimit := lim.keeps xx.toInCall.keep
  refine ⟨lim1, ?_⟩
  obtain ⟨h1, tk, es1, hk1⟩ := xx.done
  have os1 : s1.os = s.os := by rw [es1]
  have gen1 : s1.gens = s.gens := by rw [es1]
  have lt1 : s.heap.objs.size < s1.heap.objs.size := xx.toInCall.ns.lt
  have kp1 : ∀ b o, s.heap.get? b = some o → s1.heap.get? b = some o := xx.toInCall.keep
  have main : ∀ (go : Obj) (nm qn : Value) (tk2 : Nat), go.cls = .type "generator" → go.data = .fields #[.int s1.gens.size 0, nm, qn] → go.slots = #[] → (∀ h : Heap, (h.push go).get? h.objs.size = some go) →
      MadeG P w K mg base (k + 1) outer s F H items y (.ref s1.heap.objs.size) { s1 with gens := s1.gens.push (.fresh (.func (defBody st) (envOfC qual (defScope st) s.heap.objs.size f cdv))), toks := tk2, heap := s1.heap.push go } := by
    intro go nm qn tk2 hgc hgd0 hgs hgp
    obtain ⟨o, es, ep, ho, hd, _⟩ := xx.toInCall.ns
    have ho : s1.heap.get? s.heap.objs.size = some o := ho
    refine ⟨s1.heap.objs.size, s1.gens.size, go, [(s.heap.objs.size, o)], _, rfl, by rw [gen1], (Array.size_push ..).symm, Nat.le_of_lt lt1, hgp _, fun h e => ⟨go, nm, qn, e, hgc, hgd0, hgs⟩, os1, ?_, fun b o e => Heap.get?_push_of_some _ (kp1 b o e), fun p hp => ?_, Array.getElem?_push_size .., fun AW hrw hfr s2 F2 H2 E2 wk => ?_⟩
    · exact AllBare.push (by rw [gen1]; exact e0.bare) rfl
    · rw [List.mem_singleton.mp hp]
      exact ⟨Heap.get?_push_of_some _ ho, Nat.le_refl _, Nat.ne_of_lt lt1, fun v q => by rw [hd] at q; cases q⟩
    · let a : Act := ⟨⟨P, w, K, mg, base, AW, outer, s.heap.objs.size, (s1.gens.push (.fresh (.func (defBody st) (envOfC qual (defScope st) s.heap.objs.size f cdv)))).size⟩, N, qual, defScope st, f, cdv⟩
      have hcl : a.env.cells = [] := hcell _
      have e0w : Env0 P w K mg base AW outer s H := ⟨hfr, e0.mod, e0.bs, e0.bsz, e0.funs, e0.frf, e0.hok, e0.bare⟩
      have I1 := inv_startG (E := fun _ _ _ => False) Sc hrw.hd e0w hl r xx
      have I1' : Inv (a.cx s H fun _ _ _ => False) [] (start N vs) H s1 :=
        ⟨⟨I1.ok.mod, I1.ok.kind, I1.ok.glob, I1.ok.blt, I1.ok.above, I1.ok.inj, I1.ok.has, I1.ok.cab, I1.ok.hd, I1.ok.frames, I1.ok.stk, I1.ok.exf, I1.ok.bs, I1.ok.bsz, I1.ok.noex, I1.ok.exfs, I1.ok.funs, I1.ok.frf⟩, I1.os, I1.bare, I1.base, I1.loc, I1.cell, I1.free, I1.freeC, I1.pin, I1.hok, I1.len⟩
      have I2 : Inv (a.cx (trunc a.n0 s2) H2 fun _ _ _ => False) [] (start N vs) H2 s2 := inv_wake hcl rfl I1' ho (List.mem_singleton.mpr rfl) (fun p hp => absurd hp List.not_mem_nil) (fun p hp => by
        rw [List.mem_singleton.mp hp]
        exact ⟨Nat.le_refl _, fun v q => by rw [hd] at q; cases q⟩) wk
      have B := hbody cdv AW outer s.heap.objs.size a.gn y (fun env => hrw.deeper env)
      have R2 : Rel a.md c0 F2 H2 (start N vs) (startE N.length (ds.map .fz)) := rel_start wk.sub (RepL.same wk.fs rp) (by rw [← rp.length, hl]; exact hpl)
      have fin : ∀ {sw : Shared} {Fw Hw F H : Hp} {E : XK} {rem : List D} {s : Shared}, Post a.toAc sw Fw Hw F H s → rem = [] ∧ y = none → GPhi a.toAc y rem sw Fw Hw E (.ret (.ok (.ret .none))) s := fun {sw Fw Hw F H E rem s} po h => by
        obtain ⟨h1, h2⟩ := h
        subst h1
        exact .inl ⟨h2, .inl rfl, F, H, po⟩
      refine rt_func ?_
      refine B.run F2 [] [] s2 F2 H2 E2 items _ _ _ _ id id F2 H2 (start N vs) (startE N.length (ds.map .fz)) s2 (gTop y) rfl ⟨over_func, rfl, rfl, rfl, fun p hp => absurd hp List.not_mem_nil, hcl⟩ ⟨wk.n0, wk.he, I2, R2, Evo.sub fun b q => (noow_start.own q).elim, Same.refl _, fun p hp => absurd hp List.not_mem_nil, wk.gz⟩
        ⟨fun sw Fw Hw E rem F H σ env s i h => ?_, fun _ _ _ _ _ _ _ _ _ _ _ h => h.elim, fun _ _ _ _ _ _ _ _ _ _ _ h => h.elim, fun sw Fw Hw E rem F H s env po h => ?_, fun sw Fw Hw E rem u s hn hx => ?_, fun _ _ _ h => h⟩ (kp.run _ _ _ hS)
      · exact rt_end (.ok (.ret .none)) (fin (post_of i.I i.R.sub (Evo.toNob i.ev)) h)
      · exact rt_end (.ok (.ret .none)) (fin po h)
      · have hsz := trunc_size hn
        have hx : wpAny (model a.P a.w) (a.A.deeper (envOfC a.qual a.scope (trunc a.n0 sw).heap.objs.size a.f a.cd)) (leaving (envOfC a.qual a.scope (trunc a.n0 sw).heap.objs.size a.f a.cd) u) (fun _ s'' => L2.CX a.P a.w a.outer Hw (trunc a.n0 sw) (fun c d H => rem = [] ∧ E c d H) u s'') (fun u s'' => L2.CX a.P a.w a.outer Hw (trunc a.n0 sw) (fun c d H => rem = [] ∧ E c d H) u s'') s := hx
        rw [hsz] at hx
        have go2 : ∀ (u : Value) (s'' : Shared), L2.CX a.P a.w a.outer Hw (trunc a.n0 sw) (fun c d H => rem = [] ∧ E c d H) u s'' → RT (model P w) AW (.func (defBody st) a.env) (.raise u) [] s'' (GPhi a.toAc y rem sw Fw Hw E) := fun u s'' cx => by
          refine rt_end (.error u) ?_
          obtain ⟨b, B, H', cls, d, q1, q2, q3, q4, q5, q6, q7, q8, q9⟩ := cx
          subst q8
          exact .inr ⟨u, rfl, b, B, H', cls, d, q1, q2, q3, q4, q5, q6, q7, q9⟩
        refine rt_wrap ?_
        refine wpAny_mono hx (fun _ s'' cx => go2 u s'' cx) fun u' s'' cx => go2 u' s'' cx
  exact ⟨_, rfl, main _ _ _ _ rfl rfl rfl fun h => Heap.get?_push_size _ rfl⟩
end
end LV
namespace LV
open PySem PySem.Spec L2 GenW PyProof.Rows
theorem Wake.lower {ac : Ac} {x : Option Xn} {rem : List D} {F F1 : Hp} {pv : List (Addr × Obj)} {pg : List (Nat × GenState)} {s : Shared} {F' H' : Hp} {E : XK} (h : Same F F1) (w : Wake ac x rem F1 pv pg s F' H' E) : Wake ac x rem F pv pg s F' H' E :=
  ⟨h.trans w.fs, w.sub, w.e0, w.n0, w.bz, w.fr, w.pv, w.pg, w.gz, w.junk, w.he⟩
section
variable {X : Cx} {c : Ct} {pins : List (Addr × Obj)} {σ : L2.St} {F H : Hp} {s s' : Shared} {env : En} {x : Option Xn} {items : List D} {k : Nat} {u : Value}
/-- behind the call of a generator def -/
theorem MadeG.asl (I : Inv X pins σ H s) (R : Rel (mdX X) c F H σ env) (m : MadeG X.prog X.w X.K X.mg X.base k X.stack s F H items x u s') (AW : Around) (hrw : RoomW k AW) (hfr : AW.frames = some X.stack) :
    ∃ (ac : Ac) (ad g : Nat) (go : Obj) (pv : List (Addr × Obj)) (F1 H1 : Hp), u = .ref ad ∧ ac.A = AW ∧ Fit X ac pins ∧ Inv X pins σ H1 s' ∧ Rel (mdX X) c F1 H1 σ env ∧ Evo (Own σ env) (Own σ env) F H F1 H1 ∧ Asl ac x items ad g go F1 H1 s' pv [] ∧ (∃ cd, s'.gens[g]? = some (.fresh cd)) ∧ g = s.gens.size ∧ ac.gn = g + 1 := by
  obtain ⟨ad, g, go, pv, cd, rfl, hg0, hg, had, hgo, hisg, hos, hba, hkp, hpv, hgs, wake⟩ := m
  let n0 := s.heap.objs.size
  let pa := pv.map (·.1)
  have I1 : Inv X pins σ H s' := I.call' (ch := []) hos (Un.kept hkp) (I.hok.kept hkp) hba fun b z => absurd z List.not_mem_nil
  have hp : ∀ p ∈ X.pn ++ pins, p.1 < n0 := fun p hp => Heap.lt_size (I.pin p hp).1
  have hc : ∀ y c', X.env.cells.lookup y = some c' → c' < n0 := fun y c' h => by
    obtain ⟨v, ob, e, _⟩ := I.cell y c' h
    exact Heap.lt_size e
  have hn : ∀ b : Nat, n0 ≤ b → H b = none := fun b hb => I.hok.fresh hb
  have I2 : Inv X pins σ (jk n0 pa s' H) s' := inv_jk I1 I.lt hc hp I.sz
  have had' : ad ∉ pa := fun z => by
    obtain ⟨p, hp, e⟩ := List.mem_map.mp z
    exact (hpv p hp).2.2.1 e
  refine ⟨⟨X.prog, X.w, X.K, X.mg, X.base, AW, X.stack, n0, s'.gens.size⟩, ad, g, go, pv, jkF n0 pa s' H F, jk n0 pa s' H, rfl, rfl, ⟨rfl, rfl, rfl, rfl, rfl, rfl, hfr, I.lt, hc, hp, I.sz⟩, I2, jk_rel R, jk_evo _ R.sub, ⟨hisg, ?_, (by show g < s'.gens.size; omega), Nat.le_refl _, had, ⟨fun p hp => ?_, fun p hp => absurd hp List.not_mem_nil⟩, .inl ⟨cd, hgs, fun s2 F2 H2 E2 wk => wake AW hrw hfr s2 F2 H2 E2 (wk.lower (jkF_same R.sub))⟩⟩, ⟨cd, hgs⟩, hg0, hg.symm⟩
  · show jkF n0 pa s' H F ad = some (known go)
    unfold jkF
    rw [hn ad had, hgo]
    dsimp only
    rw [if_pos ⟨had, had'⟩]
    rfl
  · obtain ⟨h1, h2, h3, h4⟩ := hpv p hp
    exact ⟨h1, (jk_pv (List.mem_map_of_mem hp)).trans (hn p.1 h2), h2, h4⟩
variable {ac : Ac} {ad g : Nat} {go : Obj} {pv : List (Addr × Obj)} {pg : List (Nat × GenState)} {rem : List D} {F' H' : Hp} {z z' : Shared}
/-- a sleeping generator, over a run that cannot wake it -/
theorem Asl.kept (a : Asl ac x rem ad g go F H s pv pg) (hs : ∃ st, s.gens[g]? = some st ∧ Sl st) (b : Beside (slp s) z z') (gz : ac.gn ≤ z.gens.size) (hF : Same F F') (hp : ∀ p ∈ pv, z.heap.get? p.1 = some p.2 ∧ H' p.1 = none) : Asl ac x rem ad g go F' H' z pv pg := by
  obtain ⟨st, h1, h2⟩ := hs
  refine ⟨a.isg, hF _ _ a.adk, a.gg, gz, a.an, ⟨fun p h => ⟨(hp p h).1, (hp p h).2, (a.own.pv p h).2.2⟩, fun p h => ?_⟩, ?_⟩
  · obtain ⟨q1, q2, q3⟩ := a.own.pg p h
    exact ⟨q1, b.kept q2 q1, q3⟩
  · rcases a.run with ⟨cd, h3, h4⟩ | ⟨k, l, cd, p, fs, h3, h4⟩
    · rw [h1] at h3; cases h3; exact h2.elim
    · exact .inr ⟨k, l, cd, p, fs, b.kept h3 trivial, fun s2 F2 H2 E2 wk => h4 s2 F2 H2 E2 (wk.lower hF)⟩
theorem Asl.pinned (a : Asl ac x rem ad g go F H s pv pg) (f : Fit X ac pins) (I : Inv X pins σ H s) : Inv X (pins ++ pv) σ H s := I.pins_of fun p hp => by
  rcases List.mem_append.mp hp with hp | hp
  · exact I.pin p (List.mem_append_right _ hp)
  · obtain ⟨h1, h2, h3, h4⟩ := a.own.pv p hp
    refine ⟨h1, h2, fun e => ?_, fun hb => ?_, h4⟩
    · have := f.loc; rw [← e] at this; exact absurd (Nat.lt_of_lt_of_le this h3) (Nat.lt_irrefl _)
    · obtain ⟨_, o, ho, _⟩ := I.ok.funs.mem hb
      exact absurd (Nat.lt_of_lt_of_le (Heap.lt_size ho) (Nat.le_trans f.s0 h3)) (Nat.lt_irrefl _)
theorem Asl.letGo (a : Asl ac x rem ad g go F H s pv pg) (hok : HOk X.prog X.w H s.heap) (sm : Same F H) {tg : Expr} {v : Value} {Q : Unit → Shared → Prop} {E : Value → Shared → Prop} {B : Around} (h : Q () s) : wpAny (model X.prog X.w) B (letOwnedTupleGo tg (.ref ad) v) Q E s := by
  have had : s.heap.get? ad = some go := (show _ ∧ _ from hok ad _ (sm _ _ a.adk)).1
  obtain ⟨o, nm, qn, ho, hc, hd, _⟩ := a.isg _ had
  exact go_of ho hc hd (by decide) h
end
def loopG (tg : Tg) (body : SW) (x : Option Xn) (K : Ks) : List D → En → Prop
  | [], env => match x with
    | none => K.nx env
    | some xx => K.ex xx env
  | d :: ds, env => ∃ e1, bindT tg d env = some e1 ∧ body { K with nx := loopG tg body x K ds, ct := loopG tg body x K ds, bk := K.nx } e1
theorem loopG_mono {tg : Tg} {body : SW} {x : Option Xn} {K K' : Ks} (m : MonoS body) (k : KLe K K') : ∀ {ds : List D} {env : En}, loopG tg body x K ds env → loopG tg body x K' ds env
  | [], _, h => by
    cases x with
    | none => exact k.nx _ h
    | some xx => exact k.ex _ _ h
  | d :: ds, _, ⟨e1, b, h⟩ => ⟨e1, b, m.mo (K := { K with nx := loopG tg body x K ds, ct := loopG tg body x K ds, bk := K.nx }) ⟨fun _ q => loopG_mono m k q, k.rt, k.nx, fun _ q => loopG_mono m k q, k.ex⟩ h⟩
/-- a call of a generator def: what it will hand out -/
def wGen (S : GSpec) (wl : AW) : En → (List D → Option Xn → En → Prop) → XW → Prop := fun env Q E => wl env (fun rs e1 => ∃ ds e2 items x, frzL e1 rs = some (ds, e2) ∧ S ds items x ∧ Q items x e2) E
def wForG (tg : Tg) (S : GSpec) (wl : AW) (body : SW) : SW := fun K env => wGen S wl env (fun items x e => loopG tg body x K items e) K.ex
/-- no error of a generator ends the walk as if it were done -/
def NoStopX (X : Cx) (x : Option Xn) : Prop := ∀ xx, x = some xx → ∀ C, X.mg xx.C = some (.ref C) → PySem.W.subIn X.K (.ref C) (.type "StopIteration") = some false
section
variable {X : Cx} {c : Ct} {W : WX} {e : Expr} {es : List Expr} {wl : AW} {pos pos' p : Pos} {xn : Str} {k : Nat} {f : Addr} {fd : FuncData} {ps : List Str} {S : GSpec}
/-- the call itself -/
theorem gen_call (F : GFnG X.prog X.w X.K X.mg X.base k f fd ps S) (hr : RoomG k X.A) (hg : Gl X xn) (hm : X.mg xn = some (.ref f)) (hk : PySem.W.keepIn X.K (.ref f) = true) (hb : Binds X.K fd ps [])
    (ha : SA X c W (e :: es) wl) (hdb : (xn == ("__debug__" : Str)) = false := by decide) (he : starEach (e :: es) X.env = (false, eval e X.env) :: starEach es X.env := by rfl) (hpl : (backTo pos' (starEach es X.env)).any (·.1) = false := by rfl)
    {pins : List (Addr × Obj)} {s : Shared} {σ : L2.St} {Fr H : Hp} {env : En} {Q : Value → Shared → Prop} {Qd : List D → Option Xn → En → Prop} (I : Inv X pins σ H s) (R : Rel (mdX X) c Fr H σ env) (h : wGen S wl env Qd (XPost (mdX X) c W Fr H σ env))
    (hQ : ∀ items x e2 F2 H2 s2 u s3, s.gens.size ≤ s2.gens.size → Inv X pins σ H2 s2 → Rel (mdX X) c F2 H2 σ e2 → Evo (Own σ env) (Own σ e2) Fr H F2 H2 → Qd items x e2 → MadeG X.prog X.w X.K X.mg X.base k X.stack s2 F2 H2 items x u s3 → Q u s3) :
    wpAny (model X.prog X.w) X.A (eval (.Call (.Name xn p) (e :: es) [] pos') X.env) Q X.xe s := by
  refine wpAny_Call_Name_kw (ld_glob I hg hm ?_ hdb)
  refine PySem.W.callWith_K (h₀ := X.base) I.ok.mod.kin hk (thn (wpAny_gsz (Nat.le_refl _) (wpAny_mono (ha.pa.run pos' pins s σ H (fun vs H1 => ∃ F2 e2 ds items x, Rel (mdX X) c F2 H1 σ e2 ∧ Evo (Own σ env) (Own σ e2) Fr H F2 H1 ∧ RepL (mdX X) F2 vs ds ∧ S ds items x ∧ Qd items x e2) I
    ⟨Fr, env, R, ha.mo.mo (fun rs e1 ⟨ds, e2, items, x, q1, q2, q3⟩ => fun vs F1 H1 R1 ev1 ok => by
      obtain ⟨F2, R2, ev2, rp⟩ := frzL_ok R1 ok q1
      exact ⟨F2, e2, ds, items, x, R2, ev1.trans ev2, rp, q2, q3⟩) (fun _ _ z => z) h⟩) (fun us s1 h gz => And.intro gz h) fun _ _ z _ => z)) fun us s1 ⟨gz, vs, H1, I1, r, F2, e2, ds, items, x, R2, ev, rp, hS, q⟩ => ⟨I1.kIn, ?_⟩) he hpl
  have hl : us.length = ps.length := by rw [← r.length, rp.length]; exact F.len _ _ _ hS
  have b := hb s1 us I1.kIn (by rw [List.append_nil]; exact hl)
  rw [List.append_nil] at b
  refine wpAny_call (codeAny_mono (F.run X.A X.stack s1 F2 H1 ⟨us, []⟩ us vs ds items x hr I1.env0 b r R2.sub rp hS) fun r s' ⟨u, er, m⟩ => ?_)
  subst er
  exact hQ items x e2 F2 H1 s1 u s' gz I1 R2 ev q m
/-- exceptions in the air stay there over what cannot wake -/
def Rides (X : Cx) : Prop := ∀ (I : Nat → Option GenState) (u : Value) (z z' : Shared), Plain z' → Beside I z z' → X.xe u z' → X.xe u z
theorem ss_forG {tgE : Expr} {body : List Stmt} {tg : Tg} {wb : SW} (F : GFnG X.prog X.w X.K X.mg X.base k f fd ps S) (hr : RoomG k X.A) (hg : Gl X xn) (hm : X.mg xn = some (.ref f)) (hk : PySem.W.keepIn X.K (.ref f) = true) (hb : Binds X.K fd ps [])
    (hns : ∀ ds items x, S ds items x → NoStopX X x) (hp : PassesOwn (model X.prog X.w) X.A X.env X.xe) (hc : X.calm = true) (tk : Takes X W) (rd : Rides X) (ha : SA X c W (e :: es) wl) (ht : SG X tgE tg) (hpn : ∀ i ∈ tg.slots, i ∉ c.pn) (hbd : SSs X c W body wb)
    (hs : ∀ x, foldedSetIterable (.Call (.Name xn p) (e :: es) [] pos') X.env x = pure x := by intro _; rfl) (hdb : (xn == ("__debug__" : Str)) = false := by decide) (he : starEach (e :: es) X.env = (false, eval e X.env) :: starEach es X.env := by rfl) (hpl : (backTo pos' (starEach es X.env)).any (·.1) = false := by rfl) :
    SS X c W (.For tgE (.Call (.Name xn p) (e :: es) [] pos') body [] pos) (wForG tg S wl wb) := by
  refine ⟨⟨fun pins s σ H D I h => ?_⟩, ⟨fun kl h => ha.mo.mo (fun rs e1 ⟨ds, e2, items, x, q1, q2, q3⟩ => ⟨ds, e2, items, x, q1, q2, loopG_mono hbd.mo kl q3⟩) (fun _ _ z => kl.ex _ _ z) h⟩⟩
  obtain ⟨Fr, env, R, h⟩ := h
  refine wpAny_For (gen_call (Qd := fun items x e2 => (∃ ds, S ds items x) ∧ loopG tg wb x (KsOf (mdX X) c W D Fr H σ env) items e2) F hr hg hm hk hb ha hdb he hpl I R (ha.mo.mo (fun rs e1 ⟨ds, e2, items, x, q1, q2, q3⟩ => ⟨ds, e2, items, x, q1, q2, ⟨ds, q2⟩, q3⟩) (fun _ _ z => z.xp) h) fun items x e2 F2 H2 s2 u s3 _ I2 R2 ev2 ⟨⟨dsx, hS⟩, lw⟩ m => ?_) hs
  have fr := I.ok.frames
  obtain ⟨ac, ad, g, go, pv, F3, H3, rfl, hA, ft, I3, R3, ev3, a3, _⟩ := m.asl I2 R2 X.A.in1 hr.w1 fr
  have hh := I.ok.hd hc
  have had : s3.heap.get? ad = some go := (show _ ∧ _ from I3.hok ad _ (R3.sub _ _ a3.adk)).1
  refine wpAny_pyIter_gen (a3.isg _ had) ?_
  refine codeAny_forLoop_any (fun n s' => ∃ rem σ' F' H' env' pv pg, n = rem.length ∧ Inv X pins σ' H' s' ∧ Rel (mdX X) c F' H' σ' env' ∧ Evo (Own σ env) (Own σ' env') Fr H F' H' ∧ Asl ac x rem ad g go F' H' s' pv pg ∧ loopG tg wb x (KsOf (mdX X) c W D Fr H σ env) rem env') ?_ items.length
    ⟨items, σ, F3, H3, e2, pv, [], rfl, I3, R3, ev2.trans ev3, a3, lw⟩
  rintro n s4 ⟨rem, σ4, F4, H4, env4, pv4, pg4, rfl, I4, R4, ev4, a4, lw4⟩
  refine wpAny_passesOwn hp (turn_gen ft hA hh hr.rm.depth I4 R4 a4 tk (hns _ _ _ hS) (fun xx hrm hx cl d F5 H5 R5 ev5 xo => ?_) (fun d rem' hrm v u F5 H5 s5 pv5 pg5 I5 R5 ev5 rv rp a5 hst => ?_) fun hrm hx F5 H5 s5 I5 R5 ev5 => ?_)
  · subst hrm hx
    exact lw4 cl d σ4 F5 H5 R5 (ev4.trans ev5) xo
  · subst hrm
    obtain ⟨e5, hb5, lw5⟩ := lw4
    refine wpAny_passesOwn hp (a5.letGo I5.hok R5.sub ?_)
    have I5p := a5.pinned ft I5
    have ev45 := ev4.trans ev5
    have run := ht.pg.run (pins ++ pv5) (deadS s5) σ4 H5 v u (fun σ6 H6 => ∃ F6, Rel (mdX X) c F6 H6 σ6 e5 ∧ Evo (Own σ env) (Own σ6 e5) Fr H F6 H6 ∧ Same F5 F6) (inv_gens I5p rfl rfl (deadS_bare I5.bare)) rv
      (bindT_ok (M := mdX X) hpn R5 rp hb5 fun vs R6 ow6 => ⟨F5, R6, ev45.trans (Evo.sub ow6), Same.refl _⟩)
    refine wpAny_passesOwn hp (wpAny_mono (wpAny_gsz a5.gz (wpAny_mono (wpAny_asleep run) (fun v z h gz => And.intro gz h) fun u z ⟨z', pl, b, q⟩ _ => rd _ u z z' pl b q)) (fun _ z6 ⟨gz6, z6', pl6, b6, σ6, H6, I6, F6, R6, ev6, s56⟩ => ?_) fun _ _ q => q)
    have run2 := hbd.ps.run (pins ++ pv5) z6' σ6 H6 { D with nx := fun σ7 H7 => ∃ F7 env7, Rel (mdX X) c F7 H7 σ7 env7 ∧ Evo (Own σ env) (Own σ7 env7) Fr H F7 H7 ∧ Same F5 F7 ∧ loopG tg wb x (KsOf (mdX X) c W D Fr H σ env) rem' env7, ct := fun σ7 H7 => ∃ F7 env7, Rel (mdX X) c F7 H7 σ7 env7 ∧ Evo (Own σ env) (Own σ7 env7) Fr H F7 H7 ∧ Same F5 F7 ∧ loopG tg wb x (KsOf (mdX X) c W D Fr H σ env) rem' env7, bk := D.nx } I6
      ⟨F6, e5, R6, hbd.mo.mo (K := { KsOf (mdX X) c W D Fr H σ env with nx := loopG tg wb x (KsOf (mdX X) c W D Fr H σ env) rem', ct := loopG tg wb x (KsOf (mdX X) c W D Fr H σ env) rem', bk := NxP (mdX X) c Fr H σ env D.nx }) ⟨fun en q σ7 F7 H7 R7 ev7 => ⟨F7, en, R7, ev6.trans ev7, s56.trans ev7.fs, q⟩, fun r en q v σ7 F7 H7 R7 ev7 ok => q v σ7 F7 H7 R7 (ev6.trans ev7) ok, fun en q σ7 F7 H7 R7 ev7 => q σ7 F7 H7 R7 (ev6.trans ev7), fun en q σ7 F7 H7 R7 ev7 => ⟨F7, en, R7, ev6.trans ev7, s56.trans ev7.fs, q⟩, fun xx en q cl d σ7 F7 H7 R7 ev7 ok => q cl d σ7 F7 H7 R7 (ev6.trans ev7) ok⟩ lw5⟩
    refine wpAny_passesOwn hp (wpAny_mono (wpAny_gsz gz6 (wpAny_mono (wpAny_beside pl6 b6 run2) (fun v z h gz => And.intro gz h) fun u z ⟨z', pl, b, q⟩ _ => rd _ u z z' pl b q)) (fun fl z7 ⟨gz7, z7', pl7, b7, q7⟩ => ?_) fun _ _ q => q)
    have up : ∀ {σ7 : L2.St} {H7 : Hp}, Inv X (pins ++ pv5) σ7 H7 z7' → Inv X (pins ++ pv5) σ7 H7 z7 := fun {σ7 H7} J => inv_gens J b7.heap.symm b7.os.symm (b7.bare J.bare)
    have again : ∀ {σ7 : L2.St} {H7 : Hp}, Inv X (pins ++ pv5) σ7 H7 z7' → (∃ F7 env7, Rel (mdX X) c F7 H7 σ7 env7 ∧ Evo (Own σ env) (Own σ7 env7) Fr H F7 H7 ∧ Same F5 F7 ∧ loopG tg wb x (KsOf (mdX X) c W D Fr H σ env) rem' env7) → ∃ m, m < (d :: rem').length ∧ ∃ rem σ' F' H' env' pv pg, m = rem.length ∧ Inv X pins σ' H' z7 ∧ Rel (mdX X) c F' H' σ' env' ∧ Evo (Own σ env) (Own σ' env') Fr H F' H' ∧ Asl ac x rem ad g go F' H' z7 pv pg ∧ loopG tg wb x (KsOf (mdX X) c W D Fr H σ env) rem env' := fun {σ7 H7} J ⟨F7, env7, R7, ev7, s57, l7⟩ => by
      have J' := up J
      refine ⟨rem'.length, by simp, rem', σ7, F7, H7, env7, pv5, pg5, rfl, J'.unpinned, R7, ev7, a5.kept hst b7 gz7 s57 fun q hq => ?_, l7⟩
      obtain ⟨h1, h2, _⟩ := J'.pin q (List.mem_append_right _ (List.mem_append_right _ hq))
      exact ⟨h1, h2⟩
    cases fl with
    | next => obtain ⟨σ7, H7, J, q⟩ := q7; exact again J q
    | cont => obtain ⟨σ7, H7, J, q⟩ := q7; exact again J q
    | brk => obtain ⟨σ7, H7, J, q⟩ := q7; exact ⟨σ7, H7, (up J).unpinned, q⟩
    | ret v => obtain ⟨x7, σ7, H7, J, r7, q⟩ := q7; exact ⟨x7, σ7, H7, (up J).unpinned, r7, q⟩
  · subst hrm hx
    exact wpAny_execs_nil ⟨σ4, H5, I5, lw4 σ4 F5 H5 R5 (ev4.trans ev5)⟩
end
end LV
namespace LV
open PySem PySem.Spec L2 GenW PyProof.Rows
theorem rdF {P : Program} {w : World} {K : PySem.W.Frag} {mg : Str → Option Value} {base : Heap} {N : List Str} {qual : Str} {scope : Scope} {f : Addr} {cd : Value} {A : Around} {outer : List Env} {s : Shared} {H : Hp} {E : XK} : Rides (cxOf (L2.CX P w) P w K mg base N qual scope f cd A outer s H E) := fun I u z z' pl b h =>
  xe_beside (a := ⟨⟨P, w, K, mg, base, A, outer, s.heap.objs.size, 0⟩, N, qual, scope, f, cd⟩) (r := s) (H := H) (E := E) pl b h
section
variable {a : Act} {x : Option Xn} {ac : Ac} {rem : List D} {ad g : Nat} {go : Obj} {F H F' H' : Hp} {s z z' : Shared} {pv : List (Addr × Obj)} {pg : List (Nat × GenState)}
/-- a new generator, on the other side -/
theorem Asl.beside {I : Nat → Option GenState} (q : Asl ac x rem ad g go F H z' pv []) (hf : ∃ cd, z'.gens[g]? = some (.fresh cd)) (b : Beside I z z') : Asl ac x rem ad g go F H z pv [] := by
  obtain ⟨cd, hf⟩ := hf
  refine ⟨q.isg, q.adk, q.gg, by rw [← b.size]; exact q.gz, q.an, ⟨fun p hp => by rw [← b.heap]; exact q.own.pv p hp, fun p hp => absurd hp List.not_mem_nil⟩, .inl ?_⟩
  rcases q.run with ⟨cd', h1, h2⟩ | ⟨k, l, cd', p, fs, h1, h2⟩
  · exact ⟨cd', by rw [← b.out g (b.none_of h1 fun z => z)]; exact h1, h2⟩
  · rw [hf] at h1; cases h1
theorem Asl.later (q : Asl ac x rem ad g go F H s pv pg) {st : GenState} (hs : s.gens[g]? = some st) (hsl : Sl st) (hz : z.gens[g]? = some st) (hF : Same F F') (hp : ∀ p ∈ pv, z.heap.get? p.1 = some p.2 ∧ H' p.1 = none) (hg : ∀ p ∈ pg, z.gens[p.1]? = some p.2) (gz : ac.gn ≤ z.gens.size) : Asl ac x rem ad g go F' H' z pv pg := by
  refine ⟨q.isg, hF _ _ q.adk, q.gg, gz, q.an, ⟨fun p h => ⟨(hp p h).1, (hp p h).2, (q.own.pv p h).2.2⟩, fun p h => ⟨(q.own.pg p h).1, hg p h, (q.own.pg p h).2.2⟩⟩, ?_⟩
  rcases q.run with ⟨cd, h3, h4⟩ | ⟨k, l, cd, p, fs, h3, h4⟩
  · rw [hs] at h3; cases h3; exact hsl.elim
  · rw [hs] at h3
    refine .inr ⟨k, l, cd, p, fs, hz.trans h3, fun s2 F2 H2 E2 wk => h4 s2 F2 H2 E2 (wk.lower hF)⟩
theorem fit_cx {ip : List (Addr × Obj)} {sw sw' : Shared} {Hw Hw' : Hp} {E E' : XK} (h : a.n0 ≤ sw.heap.objs.size) (h' : a.n0 ≤ sw'.heap.objs.size) (f : Fit (a.cx (trunc a.n0 sw) Hw E) ac ip) : Fit (a.cx (trunc a.n0 sw') Hw' E') ac ip := by
  have e := Act.cx_env (a := a) (H := Hw) (E := E) (trunc_size h)
  have e' := Act.cx_env (a := a) (H := Hw') (E := E') (trunc_size h')
  have st : (a.cx (trunc a.n0 sw) Hw E).stack = (a.cx (trunc a.n0 sw') Hw' E').stack := by
    show (a.cx (trunc a.n0 sw) Hw E).env :: a.outer = (a.cx (trunc a.n0 sw') Hw' E').env :: a.outer
    rw [e, e']
  refine ⟨f.P, f.w, f.K, f.mg, f.base, f.outer.trans st, f.fr.trans (by rw [st]), ?_, ?_, f.pins, ?_⟩
  · rw [e', ← e]; exact f.loc
  · rw [e', ← e]; exact f.cells
  · have := f.s0
    show (trunc a.n0 sw').heap.objs.size ≤ _
    rw [trunc_size h', ← trunc_size h]
    exact this
end
theorem GIn.grow {a : Act} {x : Option Xn} {F0 F1 F H Fw Hw : Hp} {ip ip' : List (Addr × Obj)} {pg pg' : List (Nat × GenState)} {sw s : Shared} {E : XK} {rem : List D} {σ : L2.St} {env : En} (h : Same F1 F) (i : GIn a x F0 ip pg sw Fw Hw E rem F H σ env s) (hI : Inv (a.cx (trunc a.n0 sw) Hw fun _ _ _ => False) ip' σ H s) (hp : ∀ p ∈ pg', Sl p.2 ∧ s.gens[p.1]? = some p.2 ∧ a.gn ≤ p.1) :
    GIn a x F1 ip' pg' sw Fw Hw E rem F H σ env s := ⟨i.n0, i.he, hI, i.R, i.ev, h, hp, i.gz⟩
def gLoopG (tg : Tg) (body : GSW) (K : GKs) : List D → List D → En → Prop
  | [], rem, env => K.nx rem env
  | d :: ds, rem, env => ∃ e1, bindT tg d env = some e1 ∧ body { K with nx := gLoopG tg body K ds, ct := gLoopG tg body K ds, bk := K.nx } rem e1
def gForG (tg : Tg) (S : GSpec) (wl : AW) (body : GSW) : GSW := fun K rem env => wGen S wl env (fun items x e => x = none ∧ gLoopG tg body K items rem e) (K.ex rem)
theorem gst_forG {a : Act} {x : Option Xn} {e : Expr} {es : List Expr} {wl : AW} {pos pos' p : Pos} {xn : Str} {k : Nat} {f : Addr} {fd : FuncData} {ps : List Str} {S : GSpec} {tgE : Expr} {body : List Stmt} {tg : Tg} {gb : GSW} (F : GFnG a.P a.w a.K a.mg a.base k f fd ps S) (hr : ∀ env, RoomG k (a.A.deeper env))
    (hg : ∀ (s : Shared) (H : Hp) (E : XK), s.heap.objs.size = a.n0 → Gl (a.cx s H E) xn) (hm : a.mg xn = some (.ref f)) (hk : PySem.W.keepIn a.K (.ref f) = true) (hb : Binds a.K fd ps [])
    (ha : ∀ (s : Shared) (H : Hp) (E : XK), s.heap.objs.size = a.n0 → SA (a.cx s H E) c0 (fun cls d _ H => E cls d H) (e :: es) wl) (ht : ∀ (s : Shared) (H : Hp) (E : XK), s.heap.objs.size = a.n0 → SG (a.cx s H E) tgE tg) (hbd : GSts (fun _ => True) a x body gb)
    (hs : ∀ env x, foldedSetIterable (.Call (.Name xn p) (e :: es) [] pos') env x = pure x := by intro _ _; rfl) (hdb : (xn == ("__debug__" : Str)) = false := by decide) (he : ∀ env, starEach (e :: es) env = (false, eval e env) :: starEach es env := by intro _; rfl) (hpl : ∀ env, (backTo pos' (starEach es env)).any (·.1) = false := by intro _; rfl) :
    GSt (· = []) a x (.For tgE (.Call (.Name xn p) (e :: es) [] pos') body [] pos) (gForG tg S wl gb) := by
  refine ⟨fun F0 ip pg sw Fw Hw E rem cd fs K J gd lv F' H σ env s G hP g i k0 hw => ?_⟩
  subst hP
  refine rt_For (hs _) ?_
  rw [g.over]
  have hsz := trunc_size i.n0
  have eA := Act.cx_A (a := a) (H := Hw) (E := eE rem E) hsz
  have ha1 := ha (trunc a.n0 sw) Hw (eE rem E) hsz
  have run := gen_call (X := a.cx (trunc a.n0 sw) Hw (eE rem E)) (pos' := pos') (p := p) (Q := fun u z' => ∃ items e2 F2 H2 s2, s.gens.size ≤ s2.gens.size ∧ Inv (a.cx (trunc a.n0 sw) Hw (eE rem E)) ip σ H2 s2 ∧ Rel a.md c0 F2 H2 σ e2 ∧ Evo Nob (Own σ e2) Fw Hw F2 H2 ∧ Same F0 F2 ∧ gLoopG tg gb G items rem e2 ∧ MadeG a.P a.w a.K a.mg a.base k (a.cx (trunc a.n0 sw) Hw (eE rem E)).stack s2 F2 H2 items none u z') (Qd := fun items x e => x = none ∧ gLoopG tg gb G items rem e) F (by rw [eA]; exact hr _) (hg _ _ _ hsz) hm hk hb ha1 hdb (he _) (hpl _) (i.dead _) i.R
    (ha1.mo.mo (fun _ _ z => z) (fun xx en q => fun cl d F' H' R' ev ok => i.exOk (k0.ex rem xx en q) R'.sub (Evo.toNob (i.ev.trans ev)) ok) hw)
    fun items y e2 F2 H2 s2 u s3 hgz I2 R2 ev2 q m => by
      obtain ⟨q1, q2⟩ := q
      subst q1
      have hgz : (s.gens.map dead).size ≤ s2.gens.size := hgz
      rw [Array.size_map] at hgz
      exact ⟨items, e2, F2, H2, s2, hgz, I2, R2, i.ev.trans ev2, i.lo.trans ev2.fs, q2, m⟩
  rw [Act.cx_env hsz] at run
  refine wpAny_mono (i.step run) (fun u z1 ⟨z1', pl1, b1, gz1, items, e2, F2, H2, s2, hgz, I2, R2, ev2, lo2, lw, m⟩ => ?_) fun u zz q => k0.xc sw Fw Hw E rem u zz i.n0 q
  obtain ⟨ac, ad, gx, go, pv, F3, H3, rfl, hA, ft, I3, R3, ev3, a3, hfr, hgx, hgn1⟩ := MadeG.asl (X := a.cx (trunc a.n0 sw) Hw (eE rem E)) I2 R2 m (a.A.deeper a.env).in1 (hr _).w1 (by
    have := I2.ok.frames
    rw [eA] at this
    exact this)
  have a3 := a3.beside hfr b1
  have i3 : GIn a x F3 ip [] sw Fw Hw E rem F3 H3 σ e2 z1 := i.of b1 gz1 I3 R3 (ev2.trans ev3) (lo2.trans ev3.fs) |> fun j => ⟨j.n0, j.he, j.I, j.R, j.ev, Same.refl _, j.pg, j.gz⟩
  have lo3 : Same F0 F3 := lo2.trans ev3.fs
  have had : z1.heap.get? ad = some go := (show _ ∧ _ from i3.I.hok ad _ (i3.R.sub _ _ a3.adk)).1
  refine wpAny_pyIter_gen (a3.isg _ had) fun p' => ?_
  have hgn : a.gn ≤ gx := by
    rw [hgx]
    exact Nat.le_trans i.gz hgz
  have hn0' : a.n0 < ac.n0 := by
    have := ft.loc
    rw [Act.cx_env hsz] at this
    exact this
  have fit : ∀ {sw' : Shared} {Hw' : Hp} {E' : XK}, a.n0 ≤ sw'.heap.objs.size → Fit (a.cx (trunc a.n0 sw') Hw' E') ac ip := fun h => fit_cx i.n0 h ft
  have loop : ∀ (items : List LV.D) (sw : Shared) (Fw Hw : Hp) (E : XK) (rem : List LV.D) (F H : Hp) (σ : L2.St) (env : En) (s : Shared) (pv : List (Addr × Obj)) (pgx : List (Nat × GenState)), GIn a x F3 ip [] sw Fw Hw E rem F H σ env s → Asl ac none items ad gx go F H s pv pgx → gLoopG tg gb G items rem env →
      RT (model a.P a.w) a.A (.forLoop tgE (.ref ad) body [] a.env) ((model a.P a.w).den (.forLoop tgE (.ref ad) body [] a.env))
        (.ret (fun r => ((match r with | .ok f => (.pure f : Sem Flow) | .error e => .raise e).onRaise (cameBack a.env)).wrap K J gd lv) none (gd false) (lv []) cd p' [] :: fs) s (GPhi a.toAc x rem sw Fw Hw E) := by
    intro items
    induction items with
    | nil =>
      intro sw Fw Hw E rem F H σ env s pv pgx i as lw
      refine rt_forLoop ?_
      rw [over_loop rfl rfl, g.over]
      have hsz := trunc_size i.n0
      have tr := turn_gen (X := a.cx (trunc a.n0 sw) Hw (eE rem E)) (W := fun cls d _ H => eE rem E cls d H) (B := a.A.deeper a.env) (Q := fun r z => a.gn ≤ z.gens.size → r = none ∧ ∃ F5 H5, GIn a x F3 ip [] sw Fw Hw E rem F5 H5 σ env z) (fit i.n0) hA (hr a.env).rm.hd (hr a.env).rm.depth (inv_E i.I) i.R as tkF (fun xx h => by cases h) (fun xx _ h => by cases h) (fun d rem' h => by cases h) fun _ _ F5 H5 s5 I5 R5 ev5 gz5 => ⟨rfl, F5, H5, i.n0, i.he, inv_E I5, R5, i.ev.trans ev5, i.lo.trans ev5.fs, fun p hp => absurd hp List.not_mem_nil, gz5⟩
      refine wpAny_mono (wpAny_gsz i.gz (wpAny_mono tr (fun _ _ q => q) fun _ _ q _ => q)) (fun r z5 q => ?_) fun u zz q => rt_loopJ g rfl rfl k0 i.n0 q
      obtain ⟨er, F5, H5, i5⟩ := q
      subst er
      refine rt_block0 ?_
      exact rt_leaf (.ok .next) (k0.nx _ _ _ _ _ F5 H5 σ env z5 (GIn.low lo3 i5) lw)
    | cons d items ih =>
      intro sw Fw Hw E rem F H σ env s pv pgx i as lw
      obtain ⟨e5, hb5, lw5⟩ := lw
      refine rt_forLoop ?_
      rw [over_loop rfl rfl, g.over]
      have hsz := trunc_size i.n0
      have tr := turn_gen (X := a.cx (trunc a.n0 sw) Hw (eE rem E)) (W := fun cls d _ H => eE rem E cls d H) (B := a.A.deeper a.env) (Q := fun r z => a.gn ≤ z.gens.size → ∃ u, r = some u ∧ ∃ v F5 H5 pv5 pg5 st, GIn a x F3 ip [] sw Fw Hw E rem F5 H5 σ env z ∧ RelV v u ∧ Rep a.md F5 v d ∧ Asl ac none items ad gx go F5 H5 z pv5 pg5 ∧ z.gens[gx]? = some st ∧ Sl st) (fit i.n0) hA (hr a.env).rm.hd (hr a.env).rm.depth (inv_E i.I) i.R as tkF (fun xx h => by cases h) (fun xx _ h => by cases h)
        (fun d' rem' h v u F5 H5 s5 pv5 pg5 I5 R5 ev5 rv rp a5 ⟨st, h1, h2⟩ gz5 => by
          cases h
          exact ⟨u, rfl, v, F5, H5, pv5, pg5, st, ⟨i.n0, i.he, inv_E I5, R5, i.ev.trans ev5, i.lo.trans ev5.fs, fun p hp => absurd hp List.not_mem_nil, gz5⟩, rv, rp, a5, h1, h2⟩) fun h => by cases h
      refine wpAny_mono (wpAny_gsz i.gz (wpAny_mono tr (fun _ _ q => q) fun _ _ q _ => q)) (fun r z5 q => ?_) fun u zz q => rt_loopJ g rfl rfl k0 i.n0 q
      obtain ⟨u, er, v, F5, H5, pv5, pg5, st, i5, rv, rp, a5, h1, h2⟩ := q
      subst er
      refine a5.letGo (X := a.cx (trunc a.n0 sw) Hw (eE rem E)) i5.I.hok i5.R.sub ?_
      have I5p := a5.pinned (fit i.n0) (inv_E (E' := eE rem E) i5.I)
      have pgr := (ht (trunc a.n0 sw) Hw (eE rem E) hsz).pg.run (ip ++ pv5) (deadS z5) σ H5 v u (fun σ6 H6 => ∃ F6, Rel a.md c0 F6 H6 σ6 e5 ∧ Evo Nob (Own σ6 e5) Fw Hw F6 H6 ∧ Same F5 F6) (inv_gens I5p rfl rfl (deadS_bare I5p.bare)) rv
        (bindT_ok (M := a.md) (c := c0) (fun _ _ h => absurd h List.not_mem_nil) i5.R rp hb5 fun vs R6 ow6 => ⟨F5, R6, i5.ev.trans (Evo.sub ow6), Same.refl _⟩)
      rw [Act.cx_env hsz] at pgr
      refine wpAny_mono (i5.step pgr) (fun _ z6 ⟨z6', pl6, b6, gz6, σ6, H6, I6, F6, R6, ev6, s56⟩ => ?_) fun u zz q => rt_loopJ g rfl rfl k0 i.n0 q
      have i6 : GIn a x F3 (ip ++ pv5) [] sw Fw Hw E rem F6 H6 σ6 e5 z6 := i5.of b6 gz6 I6 R6 ev6 (i5.lo.trans s56)
      have i6' : GIn a x F5 (ip ++ pv5) ((gx, st) :: pg5) sw Fw Hw E rem F6 H6 σ6 e5 z6 := i6.grow s56 i6.I fun p hp => by
        rcases List.mem_cons.mp hp with hp | hp
        · rw [hp]; exact ⟨h2, b6.kept h1 h2, hgn⟩
        · obtain ⟨q1, q2, q3⟩ := a5.own.pg p hp
          exact ⟨q1, b6.kept q2 q1, by omega⟩
      have g' : GPos a (ip ++ pv5) cd fs gd := ⟨g.over, g.split, g.guard, g.gd, fun p hp => by
        rcases List.mem_append.mp hp with hp | hp
        · exact g.ip p hp
        · exact Nat.le_trans (Nat.le_of_lt hn0') (a5.own.pv p hp).2.2.1, g.cells⟩
      have back : ∀ {sw Fw Hw E rem F H σ env s}, GIn a x F5 (ip ++ pv5) ((gx, st) :: pg5) sw Fw Hw E rem F H σ env s → gLoopG tg gb G items rem env → RT (model a.P a.w) a.A (.forLoop tgE (.ref ad) body [] a.env) (.pure (.again (.forLoop tgE (.ref ad) body [] a.env)))
        (.ret (fun r => ((match r with | .ok f => (.pure f : Sem Flow) | .error e => .raise e).onRaise (cameBack a.env)).wrap K J gd lv) none (gd false) (lv []) cd p' [] :: fs) s (GPhi a.toAc x rem sw Fw Hw E) := fun {sw Fw Hw E rem F H σ env s} i7 lw7 => by
        have hz := (i7.pg (gx, st) List.mem_cons_self).2.1
        refine rt_again rfl (ih sw Fw Hw E rem F H σ env s pv5 pg5 ⟨i7.n0, i7.he, i7.I.unpinned, i7.R, i7.ev, i5.lo.trans i7.lo, fun p hp => absurd hp List.not_mem_nil, i7.gz⟩ (a5.later h1 h2 hz i7.lo (fun q hq => ?_) (fun q hq => (i7.pg q (List.mem_cons_of_mem _ hq)).2.1) ?_) lw7)
        · obtain ⟨h3, h4, _⟩ := i7.I.pin q (List.mem_append_right _ (List.mem_append_right _ hq))
          exact ⟨h3, h4⟩
        · rw [hgn1]
          exact (Array.getElem?_eq_some_iff.mp hz).1
      refine hbd.run F5 (ip ++ pv5) ((gx, st) :: pg5) sw Fw Hw E rem _ _ _ _ id id F6 H6 σ6 e5 z6 { G with nx := gLoopG tg gb G items, ct := gLoopG tg gb G items, bk := G.nx } trivial (gpos_loop g' rfl rfl) i6' ⟨fun sw Fw Hw E rem F H σ env s i7 lw7 => back i7 lw7, fun sw Fw Hw E rem F H σ env s i7 q7 => ?_, fun sw Fw Hw E rem F H σ env s i7 lw7 => back i7 lw7, fun sw Fw Hw E rem F H s env po q7 => ?_, fun sw Fw Hw E rem u s hn hx => ?_, k0.ex⟩ lw5
      · exact rt_leaf (.ok .next) (k0.nx _ _ _ _ _ F H σ env s ⟨i7.n0, i7.he, i7.I.unpinned, i7.R, i7.ev, (lo3.trans i5.lo).trans i7.lo, fun p hp => absurd hp List.not_mem_nil, i7.gz⟩ q7)
      · exact rt_leaf (.ok (.ret .none)) (k0.rt _ _ _ _ _ F H s env po q7)
      · exact rt_loopJ g rfl rfl k0 hn hx
  exact loop items sw Fw Hw E rem F3 H3 σ e2 z1 pv [] i3 a3 lw
end LV
namespace LV
open PySem PySem.Spec L2 GenW PyProof.Rows
theorem cells_nil : ∀ {l : List (Str × NameKind)}, l.all (fun y => y.2 != .cell) = true → ∀ n, cellsFrom n l [] = []
  | [], _, _ => rfl
  | (y, kd) :: l, h, n => by
    rw [List.all_cons, Bool.and_eq_true] at h
    unfold cellsFrom
    split
    · rename_i hk
      have := h.1
      simp_all
    · exact cells_nil h.2 n
/-- the generator def named x keeps S -/
structure OkG (P : Program) (w : World) (K : PySem.W.Frag) (mg : Str → Option Value) (base : Heap) (x : Str) (ps : List Str) (k : Nat) (S : GSpec) : Prop where
  ex : ∃ f fd, GFnG P w K mg base k f fd ps S ∧ mg x = some (.ref f) ∧ PySem.W.keepIn K (.ref f) = true ∧ Binds K fd ps []
/-- no error of its own ends a walk as if it were done -/
def GNo (K : PySem.W.Frag) (mg : Str → Option Value) (S : GSpec) : Prop := ∀ ds items x, S ds items x → ∀ xx, x = some xx → ∀ C, mg xx.C = some (.ref C) → PySem.W.subIn K (.ref C) (.type "StopIteration") = some false
theorem GFnG.mono {P : Program} {w : World} {K : PySem.W.Frag} {mg : Str → Option Value} {base : Heap} {j k : Nat} {f : Addr} {fd : FuncData} {ps : List Str} {S : GSpec} (F : GFnG P w K mg base j f fd ps S) (h : j ≤ k) : GFnG P w K mg base k f fd ps S :=
  ⟨F.len, fun B outer s Fr H args us vs ds items x hr e0 hb r sm rp hS => codeAny_mono (F.run B outer s Fr H args us vs ds items x (hr.mono h) e0 hb r sm rp hS) fun r s' ⟨u, e, ad, g, go, pv, c, q1, q2, q3, q4, q5, q6, q7, q8, q9, q10, q11, wake⟩ => ⟨u, e, ad, g, go, pv, c, q1, q2, q3, q4, q5, q6, q7, q8, q9, q10, q11, fun AW hrw => wake AW (hrw.mono h)⟩⟩
theorem okG_mk {P : Program} {w : World} {K : PySem.W.Frag} {mg : Str → Option Value} {base : Heap} {x : Str} {st : Stmt} {f : Addr} {fd : FuncData} {N ps : List Str} {k : Nat} {S : GSpec} {gw : GSW} (D : DefAt K mg x st ps f fd) (Sc : GScope N ps (defScope st)) (hc : (defScope st).names.all (fun y => y.2 != .cell) = true) (kp : GKeeps S ps.length N.length gw)
    (hbody : ∀ (cdv : Value) (AW : Around) (outer : List Env) (n0 gn : Nat) (y : Option Xn), (∀ env, RoomG k (AW.deeper env)) → GSts (· = []) ⟨⟨P, w, K, mg, base, AW, outer, n0, gn⟩, N, x, defScope st, f, cdv⟩ y (defBody st) gw) : OkG P w K mg base x ps (k + 1) S :=
  ⟨f, fd, gfn_lv D.fn Sc (cells_nil hc) kp hbody, D.at_, D.fn.kp, D.bd⟩
/-- at depth none it is not called -/
abbrev GNone : GSpec := fun _ _ _ => False
theorem okG_no {P : Program} {w : World} {K : PySem.W.Frag} {mg : Str → Option Value} {base : Heap} {x : Str} {st : Stmt} {f : Addr} {fd : FuncData} {ps : List Str} (D : DefAt K mg x st ps f fd) : OkG P w K mg base x ps 0 GNone :=
  ⟨f, fd, ⟨fun _ _ _ h => h.elim, fun _ _ _ _ _ _ _ _ _ _ _ _ _ _ _ _ _ h => h.elim⟩, D.at_, D.fn.kp, D.bd⟩
theorem OkG.imp {P : Program} {w : World} {K : PySem.W.Frag} {mg : Str → Option Value} {base : Heap} {x : Str} {ps : List Str} {j k : Nat} {S S' : GSpec} (O : OkG P w K mg base x ps j S) (h : ∀ ds items y, S' ds items y → S ds items y) (hk : j ≤ k) : OkG P w K mg base x ps k S' := by
  obtain ⟨f, fd, F, q⟩ := O.ex
  have F := F.mono hk
  exact ⟨f, fd, ⟨fun ds items y hS => F.len ds items y (h _ _ _ hS), fun B outer s Fr H args us vs ds items y hr e0 hb r sm rp hS => F.run B outer s Fr H args us vs ds items y hr e0 hb r sm rp (h _ _ _ hS)⟩, q⟩
section
variable {e : Expr} {es : List Expr} {wl : AW} {pos pos' p : Pos} {xn : Str} {k j : Nat} {ps : List Str} {S : GSpec} {tgE : Expr} {body : List Stmt} {tg : Tg}
theorem ss_forGO {X : Cx} {c : Ct} {W : WX} {wb : SW} (O : OkG X.prog X.w X.K X.mg X.base xn ps k S) (hn : GNo X.K X.mg S) (hp : PassesOwn (model X.prog X.w) X.A X.env X.xe) (hc : X.calm = true) (tk : Takes X W) (rd : Rides X) (hr : RoomG j X.A) (hg : Gl X xn) (ha : SA X c W (e :: es) wl) (ht : SG X tgE tg) (hpn : ∀ i ∈ tg.slots, i ∉ c.pn) (hbd : SSs X c W body wb) (hk : k ≤ j := by decide)
    (hs : ∀ x, foldedSetIterable (.Call (.Name xn p) (e :: es) [] pos') X.env x = pure x := by intro _; rfl) (hdb : (xn == ("__debug__" : Str)) = false := by decide) (he : starEach (e :: es) X.env = (false, eval e X.env) :: starEach es X.env := by rfl) (hpl : (backTo pos' (starEach es X.env)).any (·.1) = false := by rfl) :
    SS X c W (.For tgE (.Call (.Name xn p) (e :: es) [] pos') body [] pos) (wForG tg S wl wb) :=
  let ⟨f, fd, F, hm, hkp, hb⟩ := O.ex
  ss_forG (F.mono hk) hr hg hm hkp hb hn hp hc tk rd ha ht hpn hbd hs hdb he hpl
theorem gst_forGO {a : Act} {x : Option Xn} {gb : GSW} (O : OkG a.P a.w a.K a.mg a.base xn ps k S) (hr : ∀ env, RoomG j (a.A.deeper env)) (hg : ∀ (s : Shared) (H : Hp) (E : XK), s.heap.objs.size = a.n0 → Gl (a.cx s H E) xn)
    (ha : ∀ (s : Shared) (H : Hp) (E : XK), s.heap.objs.size = a.n0 → SA (a.cx s H E) c0 (fun cls d _ H => E cls d H) (e :: es) wl) (ht : ∀ (s : Shared) (H : Hp) (E : XK), s.heap.objs.size = a.n0 → SG (a.cx s H E) tgE tg) (hbd : GSts (fun _ => True) a x body gb) (hk : k ≤ j)
    (hs : ∀ env x, foldedSetIterable (.Call (.Name xn p) (e :: es) [] pos') env x = pure x := by intro _ _; rfl) (hdb : (xn == ("__debug__" : Str)) = false := by decide) (he : ∀ env, starEach (e :: es) env = (false, eval e env) :: starEach es env := by intro _; rfl) (hpl : ∀ env, (backTo pos' (starEach es env)).any (·.1) = false := by intro _; rfl) :
    GSt (· = []) a x (.For tgE (.Call (.Name xn p) (e :: es) [] pos') body [] pos) (gForG tg S wl gb) :=
  let ⟨f, fd, F, hm, hkp, hb⟩ := O.ex
  gst_forG (F.mono hk) hr hg hm hkp hb ha ht hbd hs hdb he hpl
end
end LV
namespace LV
open PySem PySem.Spec L2 PyProof.Rows
theorem turn_long {P : Program} {w : World} {K : PySem.W.Frag} {tg : Expr} (it : Addr) (lo : Int) (n : Nat) : Turn P w K tg (Itr lo n) [it] it (fun i h => IsLongIter h it (lo + (i : Nat) * 1) ((n : Int) - (i : Nat)) 1) where
  mem := by simp
  obj := fun i h st b hb => by
    have e : b = it := by simpa using hb
    subst e
    exact ⟨_, st, fun v z => by
      have z' : Data.fields _ = Data.cell v := z
      cases z'⟩
  keep := fun i h h' st k => k it (by simp) _ st
  item := by
    intro X hP hw hK hc i pins s σ H E I hf st hg
    subst hP hw hK
    obtain ⟨f0, f1, f2, f3, f4, f5⟩ := hf it (by simp)
    have W := PySem.Walks.longrange (prog := X.prog) (w := X.w) (I.ok.hd hc) it lo 1 n
    refine W.item i s _ _ hg st fun v h' tk hv st' kk => ?_
    obtain ⟨t, rfl⟩ := hv
    have I1 : Inv X pins σ H { s with heap := h', toks := tk } := I.turned (fun b o hb e => kk b o (by simpa using hb) e) f0 f1 f3 f4 f5
    refine ⟨_, rfl, go_of (s := { s with heap := h', toks := tk }) (n := "longrange_iterator") st' rfl rfl (by decide) ⟨.int (lo + i), H, I1, ⟨t, ?_⟩, ⟨rfl, rfl⟩, st', fun b hb => (hf b hb).1⟩⟩
    rw [Int.mul_one]
  done := by
    intro X hP hw hK hc i pins s σ H E I hf st hg
    subst hP hw hK
    obtain ⟨f0, f1, f2, f3, f4, f5⟩ := hf it (by simp)
    exact wpAny_pyNext_long_end (I.ok.hd hc) st (by have : n ≤ i := hg; omega) fun h' eb => ⟨rfl, I.turned (t' := s.toks) (fun b o hb e => eb b o hb e) f0 f1 f3 f4 f5⟩
  self := fun _ _ _ _ _ st h => wpAny_pyIter_longiter st h
theorem rangeB_it {X : Cx} {tg : Expr} {pins : List (Addr × Obj)} {σ : L2.St} {H : Hp} {s : Shared} {R : It → Hp → Prop} {E : Value → Shared → Prop} {lo hi : Int} {t u v : Tok} {tk : Nat} (I : Inv X pins σ H s)
    (q : R (Itr lo (hi - lo).toNat) H) : wpAny (model X.prog X.w) X.A (pyIter (.ref s.heap.objs.size)) (PIE X pins σ tg R) E { s with heap := s.heap.push { cls := .type "range", data := .fields #[.int lo t, .int hi u, .int 1 v] }, toks := tk } := by
  have I1 : Inv X pins σ H { s with heap := s.heap.push { cls := .type "range", data := .fields #[.int lo t, .int hi u, .int 1 v] }, toks := tk } := I.kept fun b o e => Heap.get?_push_of_some _ e
  have fp : ∀ b ∈ [(s.heap.push { cls := .type "range", data := .fields #[.int lo t, .int hi u, .int 1 v] }).objs.size], FpOk X pins H b := fun b hb => by
    have e : b = (s.heap.push { cls := .type "range", data := .fields #[.int lo t, .int hi u, .int 1 v] }).objs.size := by simpa using hb
    subst e
    exact I1.fpOk (Nat.le_refl _) (I1.hok.fresh (Nat.le_refl _))
  have e1 : lo + ((0 : Nat) : Int) * 1 = lo := by simp
  have e2 : (((hi - lo).toNat : Nat) : Int) - ((0 : Nat) : Int) = Builtin.Range.rangeSize lo hi 1 := by rw [rangeSize_one]; split <;> omega
  cases hs : Builtin.Range.small lo hi 1 with
  | true =>
    refine wpAny_pyIter_range (IsRange.new ..) hs ?_
    refine ⟨(s.heap.push { cls := .type "range", data := .fields #[.int lo t, .int hi u, .int 1 v] }).objs.size, [(s.heap.push { cls := .type "range", data := .fields #[.int lo t, .int hi u, .int 1 v] }).objs.size], _, _, H, rfl,
      I1.kept (t' := tk) fun b o e => Heap.get?_push_of_some _ e, turn_range _ lo (hi - lo).toNat, ?_, fp, q⟩
    show IsRangeIter _ _ (lo + ((0 : Nat) : Int) * 1) ((((hi - lo).toNat : Nat) : Int) - ((0 : Nat) : Int)) 1
    rw [e1, e2]
    exact Heap.get?_push_size _ rfl
  | false =>
    refine wpAny_pyIter_longrange (IsRange.new ..) hs ?_
    refine ⟨(s.heap.push { cls := .type "range", data := .fields #[.int lo t, .int hi u, .int 1 v] }).objs.size, [(s.heap.push { cls := .type "range", data := .fields #[.int lo t, .int hi u, .int 1 v] }).objs.size], _, _, H, rfl,
      I1.kept (t' := tk) fun b o e => Heap.get?_push_of_some _ e, turn_long _ lo (hi - lo).toNat, ?_, fp, q⟩
    show IsLongIter _ _ (lo + ((0 : Nat) : Int) * 1) ((((hi - lo).toNat : Nat) : Int) - ((0 : Nat) : Int)) 1
    rw [e1, e2]
    exact Heap.get?_push_size _ rfl
def iRngB (ta : TA) : TI := fun σ H R => ta σ H fun vs H1 => ∃ j : Int, vs = [.int j] ∧ R (Itr 0 j.toNat) H1
section
variable {X : Cx} {c : Ct} {W : WX} {tg a : Expr} {wl : AW} {p pos : Pos}
theorem pi_rangeB {ta : TA} (hg : Gl X "range") (hm : X.mg "range" = none) (ha : PA X [a] ta) (hs : starEach [a] X.env = [(false, eval a X.env)] := by rfl) : PI X tg (.Call (.Name "range" p) [a] [] pos) (iRngB ta) := by
  refine ⟨fun pins s σ H R I h => ?_⟩
  refine Call_ (ld_blt I hg hm boot_range (PyProof.Rows.callWith_type1 (thn (ha.run pos pins s σ H _ I h) fun us s1 ⟨vs, H1, I1, r1, q1⟩ => ?_) hs rfl))
  obtain ⟨j, e, q⟩ := q1
  subst e
  cases r1 with
  | cons r rr =>
    cases rr
    obtain ⟨t, rfl⟩ := r
    exact call_range_1 (rangeB_it I1 (by simpa using q))
def wRngB (wl : AW) : IW := fun env Q E => wl env (fun rs e => ∃ j, lookL e rs = some [.int j] ∧ Q (rngD 0 j.toNat) yesK e) E
theorem si_rngB (hg : Gl X "range") (hm : X.mg "range" = none) (ha : SA X c W [a] wl) (hs : starEach [a] X.env = [(false, eval a X.env)] := by rfl) : SI X c W tg (.Call (.Name "range" p) [a] [] pos) (wRngB wl) := by
  refine ⟨PI.imp (pi_rangeB hg hm ha.pa hs) fun σ H R' q => ?_, ⟨fun hQ hE h => ha.mo.mo (fun rs e ⟨j, l, z⟩ => ⟨j, l, hQ _ _ _ z⟩) hE h⟩⟩
  obtain ⟨F, env, R, q⟩ := q
  refine ⟨F, env, R, ha.mo.mo (fun rs e1 ⟨j, l, z⟩ => ?_) (fun _ _ z => z) q⟩
  intro vs F1 H1 R1 ev1 ok
  exact ⟨j, vwL_int1 (ok.vw R1 l), z F1 H1 _ R1 ev1 Walks.rng⟩
end
end LV
set_option maxHeartbeats 4000000
namespace LV
open PySem PySem.Spec PyProof.Rows L2
/-- t * k, k not above 0: the empty tuple -/
theorem tuple_mul0 (l : Addr) (items : Array Value) (n : Nat) (dd : Option Addr) (sl : Array (Option Value)) (x : Int) (u : Tok) (c0 : (decide (x < -(2 ^ 63)) || decide (x ≥ 2 ^ 63)) = false) (c1 : (items.isEmpty || x == 1) = false) (c2 : (decide (x ≤ 0) || items.isEmpty) = true) :
    Meets (Builtin.«tuple.__mul__» ⟨[.ref l, .int x u], []⟩) (fun _ R s => s.heap.get? l = some { cls := .type "tuple", dict := dd, data := .seq items n, slots := sl } ∧
      R (.ok (.ret (Value.ref s.heap.objs.size))) { s with heap := s.heap.push { cls := Value.type "tuple", data := Data.seq #[] }, toks := s.toks }) :=
  .of_wp fun prog w A R s h => by
    obtain ⟨hp, g, d, tk, os⟩ := s
    obtain ⟨hl, h⟩ := h
    have f1 := AutoSeq1.idx_int
    wp_walk using wpAny_loadPart' hl
    repeat (first
      | (refine wpAny_ite_false (decide_eq_false (by rw [c0]; exact Bool.false_ne_true)) ?_; wp_walk using wpAny_loadPart' hl)
      | (refine wpAny_ite_false (decide_eq_false (by rw [c1]; exact Bool.false_ne_true)) ?_; wp_walk using wpAny_loadPart' hl)
      | (refine wpAny_ite_true (decide_eq_true c2) ?_; wp_walk using wpAny_loadPart' hl))
    exact ⟨_, rfl, h⟩
def rRep0 (K : PySem.W.Frag) : R2 := fun x y H Q => ∃ l k xs, x = .ref l ∧ y = .int k ∧ SqT K H l xs ∧ xs ≠ [] ∧ -(2 ^ 63) ≤ k ∧ k ≤ 0 ∧ ∀ p, H p = none → Q (.ref p) (upd H p (.tup []))
theorem op_rep0 {X : Cx} : OpR X (binaryOp .Mult) (rRep0 X.K) := by
  intro pins s σ H x y v u Q I rx ry h
  obtain ⟨l, k, xs, rfl, rfl, hT, hne, h1, h2, q⟩ := h
  cases rx
  obtain ⟨t, rfl⟩ := ry
  obtain ⟨its, r, ⟨⟨cls, dd, data, sl⟩, ho, hc, n, hd⟩, hs⟩ := I.tuple hT
  simp only at hc hd
  subst hc hd
  have hi : its.toArray.isEmpty = false := by
    cases its with
    | nil => exact absurd (List.eq_nil_of_length_eq_zero (by rw [r.length]; rfl)) hne
    | cons a as => rfl
  exact wpAny_binaryOp_repeat_ref (T := "tuple") (U := "int") (by decide) ⟨_, ho, rfl⟩ (fun s' => typeIs_int s' k t) noFill_tuple_mul F.fills_int_mul F.slot_int_rmul repeat_tuple F.slot_int_index.lookup
    (call_meets F.slot_int_rmul (typeIs_int s k t) F.entry_int_rmul (F.args_int_rmul_2 _ _) (int_rmul_tuple k t l its.toArray n dd sl)
      ⟨ho, rfl, ⟨_, ho, rfl⟩, call_meets F.slot_tuple_mul ⟨_, ho, rfl⟩ F.entry_tuple_mul (F.args_tuple_mul_2 _ _) (tuple_mul0 l its.toArray n dd sl k t (by simp; omega) (by rw [hi]; simp; omega) (by simp [h2]))
        ⟨ho, ⟨.ref s.heap.objs.size, upd H s.heap.objs.size (.tup []), I.laid (t' := s.toks) (fun b o e => Heap.get?_push_of_some _ e) (Nat.le_refl _) ⟨by simp, [], .nil, IsTup.new ..⟩, rfl, q _ (I.hok.fresh (Nat.le_refl _))⟩⟩⟩)
def gMulZ : G2 := fun a b Q => (∃ xs k, a = .tup xs ∧ xs ≠ [] ∧ b = .int k ∧ -(2 ^ 63) ≤ k ∧ k ≤ 0 ∧ Q (.fz (.tup []))) ∨ gMulT a b Q
theorem vr_mulZ {X : Cx} : VR2 X (binaryOp .Mult) gMulZ where
  ok := by
    intro pins s σ H x y v u Q I rx ry ⟨F, da, db, sm, vx, vy, q⟩
    rcases q with ⟨xs, k, rfl, hne, rfl, k1, k2, q⟩ | q
    · obtain ⟨a, vs, rfl, h1, h2⟩ := vx
      cases vy
      exact op_rep0 pins s σ H _ _ v u Q I rx ry ⟨a, k, vs, rfl, rfl, Same.sqT sm h1, fun z => hne (by subst z; cases h2; rfl), k1, k2, fun p hp => q.newT sm .nil hp⟩
    · exact vr_mulT.ok pins s σ H x y v u Q I rx ry ⟨F, da, db, sm, vx, vy, q⟩
  mo := ⟨fun h q => q.elim (fun ⟨xs, k, a, b, c, d, e, q⟩ => .inl ⟨xs, k, a, b, c, d, e, h _ q⟩) fun q => .inr ((vr_mulT (X := X)).mo.mo h q)⟩
/-- (x,) * k, k from 0 on -/
theorem gMulZ_rep {d : D} {k : Nat} {Q : Rv → Prop} (h2 : k ≤ 1000) (q : Q (.fz (.tup (List.replicate k d)))) : gMulZ (.tup [d]) (.int (k : Int)) Q := by
  by_cases e : k = 0
  · subst e; exact .inl ⟨_, _, rfl, by simp, rfl, by simp, by simp, q⟩
  · exact .inr (gMulT_one (by omega) (by omega) (by rw [Int.toNat_natCast]; exact q))
end LV
set_option maxHeartbeats 2000000
namespace LV
open PySem PySem.Spec L2
def w__law_bag : SW :=
  (wSeq (wSet 1 (wLc (.n 2) (wIt [] (wSl (wVar 0) wNoP (wPt (wC (.int 63))))) uYes (wBlt gInt1 (wCons (wVar 2) wNil)) [2]))
  (wSeq (wSet 3 (wC (.int 0)))
  (wSeq (wSet 4 (wC (.int 7)))
  (wSeq (wFor (.n 2) (wIt [] (wVar 1))
  (wSeq (wSet 4 (wOp2 gMod (wBlt gInt1 (wCons (wOp2 gAdd (wOp2 gAdd (wOp2 gMulT (wVar 4) (wC (.int 31))) (wOp2 gMod (wBlt gInt1 (wCons (wVar 2) wNil)) (wC (.int 1000003)))) (wC (.int 11))) wNil)) (wC (.int 2147483647))))
  (wIf (wtAnd (wB (wOp2 gEq (wVar 3) (wC (.int 0)))) (wB (wOp2 gGe (wBlt gAbs (wCons (wVar 2) wNil)) (wOp2 gPow (wC (.int 10)) (wC (.int 18))))))
  (wSet 3 (wBlt gAbs (wCons (wVar 2) wNil)))
  wSkip)))
  (wRet [] (wLst (wCons (wVar 3) (wCons (wVar 4) (wCons (wC (.int 0)) (wCons (wVar 1) wNil))))))))))
def w__law_take : SW :=
  (wSeq (wSetIx 0 (wOp2 gAdd (wOp2 gIx (wVar 0) (wC (.int 2))) (wC (.int 1))) (wC (.int 2)))
  (wSeq (wIf (wB (wOp2 gGt (wOp2 gIx (wVar 0) (wC (.int 0))) (wC (.int 0))))
  (wSeq (wSet 2 (wOp2 gMod (wBlt gInt1 (wCons (wOp2 gIx (wVar 0) (wC (.int 0))) wNil)) (wVar 1)))
  (wSeq (wSetIx 0 (wOp2 gDiv (wOp2 gIx (wVar 0) (wC (.int 0))) (wVar 1)) (wC (.int 0)))
  (wRet [0] (wVar 2))))
  wSkip)
  (wSeq (wSet 3 (wOp2 gIx (wVar 0) (wC (.int 3))))
  (wSeq (wIf (wtNot (wTru (wVar 3)))
  (wRet [0] (wOp2 gMod (wBlt gInt1 (wCons (wOp2 gIx (wVar 0) (wC (.int 2))) wNil)) (wVar 1)))
  wSkip)
  (wSeq (wSet 4 (wOp2 gIx (wVar 3) (wOp2 gMod (wBlt gInt1 (wCons (wOp2 gIx (wVar 0) (wC (.int 2))) wNil)) (wBlt gLen (wCons (wVar 3) wNil)))))
  (wSeq (wSet 5 (wOp2 gMod (wBlt gInt1 (wCons (wOp2 gAdd (wOp2 gAdd (wOp2 gMulT (wVar 4) (wC (.int 48271))) (wOp2 gMulT (wOp2 gIx (wVar 0) (wC (.int 2))) (wC (.int 69621)))) (wOp2 gIx (wVar 0) (wC (.int 1)))) wNil)) (wC (.int 2147483629))))
  (wSeq (wSet 6 (wOp2 gMod (wBlt gInt1 (wCons (wOp2 gAdd (wOp2 gMulT (wVar 5) (wVar 5)) (wOp2 gIx (wVar 0) (wC (.int 1)))) wNil)) (wC (.int 2147483647))))
  (wSeq (wSet 7 (wOp2 gMod (wBlt gInt1 (wCons (wOp2 gAdd (wOp2 gMulT (wVar 6) (wVar 6)) (wOp2 gIx (wVar 0) (wC (.int 2)))) wNil)) (wC (.int 2147483629))))
  (wRet [0] (wOp2 gMod (wBlt gInt1 (wCons (wOp2 gDiv (wVar 7) (wC (.int 64))) wNil)) (wVar 1)))))))))))
def w__law_is_integer : SW :=
  (wRet [] (wAnd (wIsi .int (wVar 0)) (wNot (wIsi .bl (wVar 0)))))
def w__law_next : SW :=
  (wSeq (wFor (.n 2) (wRng3 (wCons (wOp2 gSub (wBlt gLen (wCons (wVar 0) wNil)) (wC (.int 1))) (wCons (wNeg (wC (.int 1))) (wCons (wNeg (wC (.int 1))) wNil))))
  (wIf (wB (wOp2 gLt (wOp2 gIx (wVar 0) (wVar 2)) (wOp2 gIx (wVar 1) (wVar 2))))
  (wRet [] (wOp2 gAdd (wOp2 gAdd (wSl (wVar 0) wNoP (wPt (wVar 2))) (wTup (wCons (wOp2 gAdd (wOp2 gIx (wVar 0) (wVar 2)) (wC (.int 1))) wNil))) (wOp2 gMulZ (wTup (wCons (wC (.int 0)) wNil)) (wOp2 gSub (wOp2 gSub (wBlt gLen (wCons (wVar 0) wNil)) (wVar 2)) (wC (.int 1))))))
  wSkip))
  (wRet [] (wC .non)))
def w__law_is_row (S__law_is_integer : FSpec) : SW :=
  (wSeq (wIf (wtOr (wtNot (wTru (wIsi .tup (wVar 0)))) (wB (wOp2 gNe (wBlt gLen (wCons (wVar 0) wNil)) (wVar 1))))
  (wRet [] (wC (.bl false)))
  wSkip)
  (wRet [] (wBlt gAll (wCons (wLc (.n 2) (wIt [] (wVar 0)) uYes (wAnd (wCall S__law_is_integer (wCons (wFrz (wVar 2)) wNil)) (wOp2 gGe (wVar 2) (wC (.int 0)))) [2]) wNil))))
def w__law_small (S__law_take : FSpec) : SW :=
  (wSeq (wSet 2 (wC (.int 400)))
  (wSeq (wSet 3 (wOp2 gIx (wLst (wCons (wC (.int 4)) (wCons (wC (.int 12)) (wCons (wC (.int 400)) wNil)))) (wCall S__law_take (wCons (wVar 0) (wCons (wC (.int 3)) wNil)))))
  (wSeq (wSet 4 (wLst wNil))
  (wSeq (wFor (.n 5) (wRng1 (wCons (wVar 1) wNil))
  (wSeq (wSet 6 (wCall S__law_take (wCons (wVar 0) (wCons (wFrz (wBlt gMin2 (wCons (wVar 2) (wCons (wVar 3) wNil)))) wNil))))
  (wSeq (wApp 4 (wVar 6))
  (wSet 2 (wOp2 gDiv (wVar 2) (wOp2 gAdd (wVar 6) (wC (.int 1))))))))
  (wRet [0] (wBlt gTuple (wCons (wVar 4) wNil)))))))
def w__law_great (S__law_take : FSpec) : SW :=
  (wSeq (wSet 2 (wLst wNil))
  (wSeq (wFor (.n 3) (wRng1 (wCons (wVar 1) wNil))
  (wIf (wB (wOp2 gEq (wCall S__law_take (wCons (wVar 0) (wCons (wC (.int 3)) wNil))) (wC (.int 0))))
  (wApp 2 (wCall S__law_take (wCons (wVar 0) (wCons (wFrz (wOp2 gPow (wC (.int 10)) (wC (.int 30)))) wNil))))
  (wApp 2 (wCall S__law_take (wCons (wVar 0) (wCons (wC (.int 4)) wNil))))))
  (wRet [0] (wBlt gTuple (wCons (wVar 2) wNil)))))
def w_rows_under (S_rows_under : GSpec) : GSW :=
  (gSeq (gIf (wB (wOp2 gEq (wBlt gLen (wCons (wVar 0) wNil)) (wC (.int 1))))
  (gSeq (gFor (.n 1) (wRngB (wCons (wOp2 gAdd (wOp2 gIx (wVar 0) (wC (.int 0))) (wC (.int 1))) wNil))
  (gSeq (gYield (wTup (wCons (wVar 1) wNil)))
  gNil))
  gNil)
  (gSeq (gFor (.n 1) (wRngB (wCons (wOp2 gAdd (wOp2 gIx (wVar 0) (wC (.int 0))) (wC (.int 1))) wNil))
  (gSeq (gForG (.n 2) S_rows_under (wCons (wFrz (wSl (wVar 0) (wPt (wC (.int 1))) wNoP)) wNil)
  (gSeq (gYield (wOp2 gAdd (wTup (wCons (wVar 1) wNil)) (wVar 2)))
  gNil))
  gNil))
  gNil))
  gNil)
def w__law_yielded (S_rows_under : GSpec) (S__law_is_row : FSpec) (S__law_next : FSpec) : SW :=
  (wSeq (wSet 2 (wOp2 gMulZ (wTup (wCons (wC (.int 0)) wNil)) (wBlt gLen (wCons (wVar 0) wNil))))
  (wSeq (wSet 3 (wC (.int 0)))
  (wSeq (wForG (.n 4) S_rows_under (wCons (wFrz (wVar 0)) wNil)
  (wSeq (wIf (wB (wOp2 gEq (wVar 3) (wVar 1)))
  (wRet [] (wC (.bl true)))
  wSkip)
  (wSeq (wIf (wtOr (wB (wOp2 gIsN (wVar 2) (wC .non))) (wtOr (wtNot (wTru (wCall S__law_is_row (wCons (wFrz (wVar 4)) (wCons (wFrz (wBlt gLen (wCons (wVar 0) wNil))) wNil))))) (wB (wOp2 gNe (wVar 4) (wVar 2)))))
  (wRet [] (wC (.bl false)))
  wSkip)
  (wSeq (wSet 2 (wCall S__law_next (wCons (wFrz (wVar 2)) (wCons (wFrz (wVar 0)) wNil))))
  (wSet 3 (wOp2 gAdd (wVar 3) (wC (.int 1))))))))
  (wRet [] (wOp2 gIsN (wVar 2) (wC .non))))))
def w_law (S__law_bag : FSpec) (S__law_take : FSpec) (S__law_small : FSpec) (S__law_yielded : FSpec) (S__law_great : FSpec) : SW :=
  (wSeq (wSet 1 (wCall S__law_bag (wCons (wFrz (wVar 0)) wNil)))
  (wSeq (wSet 2 (wCall S__law_small (wCons (wVar 1) (wCons (wFrz (wOp2 gAdd (wC (.int 1)) (wCall S__law_take (wCons (wVar 1) (wCons (wC (.int 8)) wNil))))) wNil))))
  (wSeq (wIf (wtNot (wTru (wCall S__law_yielded (wCons (wFrz (wVar 2)) (wCons (wC (.int 500)) wNil)))))
  (wRet [] (wC (.bl false)))
  wSkip)
  (wSeq (wIf (wtNot (wTru (wCall S__law_yielded (wCons (wFrz (wCall S__law_great (wCons (wVar 1) (wCons (wFrz (wOp2 gAdd (wC (.int 1)) (wCall S__law_take (wCons (wVar 1) (wCons (wC (.int 8)) wNil))))) wNil)))) (wCons (wC (.int 9)) wNil)))))
  (wRet [] (wC (.bl false)))
  wSkip)
  (wRet [] (wOr (wOp2 gNe (wCall S__law_take (wCons (wVar 1) (wCons (wC (.int 16)) wNil))) (wC (.int 1))) (wCall S__law_yielded (wCons (wFrz (wTup (wCons (wC (.int 11)) (wCons (wC (.int 12)) (wCons (wC (.int 12)) wNil))))) (wCons (wC (.int 3000)) wNil)))))))))
end LV
set_option maxHeartbeats 400000
namespace LV
open PySem PySem.Spec L2
/-- a comprehension whose parts change nothing -/
theorem cw_fm {tg : Tg} {u : TW} {w : EW} {vs : List Nat} {keep : KeepE} {Q : List D → En → Prop} {env : En} (p : D → Bool) (f : D → D) (hk : keep env) : ∀ (ds acc : List D),
    (∀ d ∈ ds, ∃ e1, bindT tg d env = some e1 ∧ wipeE e1 vs = env ∧ (∀ G : Bool → En → Prop, G (p d) e1 → u e1 G X0) ∧ (p d = true → ∀ G : Rv → En → Prop, G (.fz (f d)) e1 → wFz w e1 G X0)) →
    acc.length + ds.length < sizeLine → Q (acc ++ (ds.filter p).map f) env → compW tg u w vs keep Q ds acc env
  | [], acc, _, _, q => ⟨hk, by simpa using q⟩
  | d :: ds, acc, h, hl, q => by
    obtain ⟨e1, h1, h2, h3, h4⟩ := h d List.mem_cons_self
    rw [List.length_cons] at hl
    refine ⟨hk, e1, h1, h3 _ ?_⟩
    cases hp : p d with
    | true =>
      rw [if_pos rfl]
      refine h4 hp _ ⟨f d, e1, rfl, by omega, ?_⟩
      rw [h2]
      refine cw_fm p f hk ds _ (fun x hx => h x (List.mem_cons_of_mem _ hx)) (by rw [List.length_append, List.length_singleton]; omega) ?_
      rw [List.filter_cons_of_pos hp, List.map_cons] at q
      rw [List.append_assoc]; exact q
    | false =>
      rw [if_neg Bool.false_ne_true]
      show compW tg u w vs keep Q ds acc (wipeE e1 vs)
      rw [h2]
      refine cw_fm p f hk ds _ (fun x hx => h x (List.mem_cons_of_mem _ hx)) (by omega) ?_
      rw [List.filter_cons_of_neg (by rw [hp]; exact Bool.false_ne_true)] at q
      exact q
theorem cw_map {tg : Tg} {w : EW} {vs : List Nat} {keep : KeepE} {Q : List D → En → Prop} {env : En} (f : D → D) (hk : keep env) (ds : List D)
    (h : ∀ d ∈ ds, ∃ e1, bindT tg d env = some e1 ∧ wipeE e1 vs = env ∧ ∀ G : Rv → En → Prop, G (.fz (f d)) e1 → wFz w e1 G X0) (hl : ds.length < sizeLine) (q : Q (ds.map f) env) : compW tg uYes w vs keep Q ds [] env := by
  refine cw_fm (fun _ => true) f hk ds [] (fun d hd => ?_) (by rw [List.length_nil]; omega) ?_
  · obtain ⟨e1, h1, h2, h3⟩ := h d hd
    exact ⟨e1, h1, h2, fun G g => g, fun _ G g => h3 G g⟩
  · rw [List.nil_append, List.filter_eq_self.mpr (fun _ _ => rfl)]; exact q
theorem at_nat {α : Type} {l : List α} {k : Nat} {x : α} (h : l[k]? = some x) : L2.atI l (k : Int) = some x := by
  have hk := (List.getElem?_eq_some_iff.mp h).1
  unfold L2.atI L2.ixN
  rw [if_pos (by omega), if_pos (by omega)]
  exact h
end LV
namespace LV
open PySem PySem.Spec L2
theorem plainL_ints : ∀ r : List Int, plainL (r.map D.int) = true
  | [] => rfl
  | x :: r => by show (true && plainL (r.map D.int)) = true; rw [plainL_ints r]; rfl
theorem lay_ints : ∀ r : List Int, PyData.canLayAll0 (pdL (r.map D.int)) = true
  | [] => rfl
  | x :: r => by show (true && PyData.canLayAll0 (pdL (r.map D.int))) = true; rw [lay_ints r]; rfl
theorem deep_ints : ∀ r : List Int, PyData.depthAll (pdL (r.map D.int)) = 0
  | [] => rfl
  | x :: r => by show max 0 (PyData.depthAll (pdL (r.map D.int))) = 0; rw [deep_ints r]; rfl
theorem okE_row (r : List Int) : (rowD r).okE = true := by
  show (plainL (r.map D.int) && (PyData.canLayAll0 (pdL (r.map D.int)) && decide (PyData.depthAll (pdL (r.map D.int)) + 1 ≤ 64))) = true
  rw [plainL_ints, lay_ints, deep_ints]; rfl
theorem eqv_ints : ∀ a b : List Int, PyData.eqvAll (pdL (a.map D.int)) (pdL (b.map D.int)) = decide (a = b)
  | [], [] => by simp [pdL, PyData.eqvAll]
  | [], _ :: _ => by simp [pdL, PyData.eqvAll]
  | _ :: _, [] => by simp [pdL, PyData.eqvAll]
  | x :: a, y :: b => by
    show ((x == y) && PyData.eqvAll (pdL (a.map D.int)) (pdL (b.map D.int))) = decide (x :: a = y :: b)
    rw [eqv_ints a b]
    by_cases h : x = y
    · by_cases h' : a = b
      · simp [h, h']
      · simp [h, h']
    · simp [h]
theorem eqv_row (a b : List Int) : eqvD (rowD a) (rowD b) = decide (a = b) := eqv_ints a b
end LV
set_option exponentiation.threshold 2000
namespace LV
open PySem PySem.Spec L2
end LV
namespace LV
open PySem PySem.Spec L2
end LV
set_option maxHeartbeats 1000000
namespace LV
open PySem PySem.Spec L2
def wSplit (wo we : EW) : EW := fun env Q E => wFz wo env (fun r e1 => ∃ a, r = .fz (.str a) ∧ wFz we e1 (fun r2 e2 => ∃ b : Str, r2 = .fz (.str b) ∧ (b.length == 0) = false ∧ a.length + 2 ≤ sizeLine ∧ Q (.ow (.lst ((Txt.split a b).map D.str))) e2) E) E
theorem Mono.split {wo we : EW} (mo : Mono wo) (me : Mono we) : Mono (wSplit wo we) := ⟨fun hQ hE h => mo.fz.mo (fun r e1 ⟨a, b, q⟩ => ⟨a, b, me.fz.mo (fun r2 e2 ⟨y, l, s, s2, z⟩ => ⟨y, l, s, s2, hQ _ _ z⟩) hE q⟩) hE h⟩
end LV
namespace LV
open PySem PySem.Spec L2
end LV
namespace LV
open PySem PySem.Spec L2
section
variable {env e1 e2 : En} {wa wb w wc : EW} {a b c : Str} {i j m : Nat} {k : Bool} {ds es : List D} {d : D}
theorem ix_tup {j : Nat} {Q : Rv → Prop} (h : ds[j]? = some d) (q : Q (.fz d)) : gIx (.tup ds) (.int (j : Int)) Q := ⟨d, at_nat h, q⟩
theorem ix_l {j : Nat} {Q : Rv → Prop} (h : ds[j]? = some d) (q : Q (.fz d)) : gIx (.lst ds) (.int (j : Int)) Q := ⟨d, at_nat h, q⟩
theorem ev_neg {x : Int} : EvR env (wNeg (wC (.int x))) (.fz (.int (-x))) env := ⟨fun {Q E} q => by
  unfold wNeg
  exact ⟨x, rfl, q⟩⟩
theorem ev_isN {env e1 : En} {w : EW} {d : D} (h : Ev env w d e1) : EvR env (wOp2 gIsN w (wC .non)) (.fz (.bl (isN d))) e1 := ev_op h cx fun Q' q => ⟨rfl, q⟩
theorem cut_take {ds : List D} {k : Nat} : cutD ds none (some (k : Int)) = ds.take k := by
  unfold cutD
  rw [HT.sIx_none, HT.sIx_nat]
  simp
theorem cut_drop {ds : List D} {k : Nat} : cutD ds (some (k : Int)) none = ds.drop k := by
  unfold cutD
  rw [HT.sIx_none, HT.sIx_nat]
  by_cases h : k ≤ ds.length
  · rw [Nat.min_eq_left h, List.take_of_length_le (by rw [List.length_drop]; omega)]
  · rw [List.drop_eq_nil_of_le (by omega : ds.length ≤ k), List.drop_eq_nil_of_le (by omega)]; simp
theorem ev_catt {wa : EW} {as bs : List D} (ha : Ev env wa (.tup as) e1) (hb : Ev e1 wb (.tup bs) e2) (h : as.length + bs.length ≤ 1000) : EvR env (wOp2 gAdd wa wb) (.fz (.tup (as ++ bs))) e2 :=
  ev_op ha hb fun Q' q => by have := sizeLine_eq; rw [gAdd_tt]; exact ⟨by omega, q⟩
end
section
variable {env e1 e2 : En} {wa wb wc : EW} {a b c : Int} {k : Bool}
theorem ev_lti {wa wb : EW} (ha : Ev env wa (.int a) e1) (hb : Ev e1 wb (.int b) e2) (h : decide (a < b) = k) : EvR env (wOp2 gLt wa wb) (.fz (.bl k)) e2 := ev_op ha hb fun Q' q => by rw [gLt_ii, h]; exact q
theorem ev_addi {wa wb : EW} (ha : Ev env wa (.int a) e1) (hb : Ev e1 wb (.int b) e2) : EvR env (wOp2 gAdd wa wb) (.fz (.int (a + b))) e2 := ev_op ha hb fun Q' q => by rw [gAdd_ii]; exact q
theorem ev_subi {wa wb : EW} (ha : Ev env wa (.int a) e1) (hb : Ev e1 wb (.int b) e2) : EvR env (wOp2 gSub wa wb) (.fz (.int (a - b))) e2 := ev_op ha hb fun Q' q => by rw [gSub_ii]; exact q
theorem ev_eqi' {wa wb : EW} (ha : Ev env wa (.int a) e1) (hb : Ev e1 wb (.int b) e2) (h : decide (a = b) = k) : EvR env (wOp2 gEq wa wb) (.fz (.bl k)) e2 := ev_op ha hb fun Q' q => ⟨rfl, rfl, by
  rw [eqv_ii, show (a == b) = decide (a = b) by rw [Bool.eq_iff_iff, beq_iff_eq, decide_eq_true_eq], h]; exact q⟩
theorem ev_lent {w : EW} {ds : List D} (h : Ev env w (.tup ds) e1) : EvR env (wBlt gLen (wCons w wNil)) (.fz (.int (ds.length : Int))) e1 := ev_blt (evl_cons h evl_nil) fun Q' q => q
end
section
variable {env e1 e2 : En} {w wa wb : EW} {ds es : List D} {i j : Int} {K : Ks} {tg : Tg} {body : SW} {pn : List Nat}
theorem ev_slTR (h : Ev env w (.tup ds) env) (hw : EvR env wa (.fz (.int i)) env) : EvR env (wSl w wNoP (wPt wa)) (.fz (.tup (cutD ds none (some i)))) env := ⟨fun {Q E} q => by
  unfold wSl wNoP wPt
  exact h.go (hw.go ⟨i, rfl, .tup ds, rfl, q⟩)⟩
theorem ev_slTL (h : Ev env w (.tup ds) env) (hw : EvR env wa (.fz (.int i)) env) : EvR env (wSl w (wPt wa) wNoP) (.fz (.tup (cutD ds (some i) none))) env := ⟨fun {Q E} q => by
  unfold wSl wNoP wPt
  exact h.go (hw.go ⟨i, rfl, .tup ds, rfl, q⟩)⟩
end
section
variable {env e1 : En} {wl : AW} {ds : List D} {S : FSpec} {C : Str} {Q : Rv → En → Prop} {E : XW} {u : TW} {s1 s2 : SW} {K : Ks} {pn : List Nat}
theorem call_both (mS : MonoF S) (hl : EvL env wl ds e1) (q : S (ds.map .fz) (fun r as => as = ds.map .fz ∧ (∀ i, r ≠ .sl i) ∧ Q r e1) (fun x as => as = ds.map .fz ∧ E x e1)) : wCall S wl env Q E := by
  unfold wCall
  refine hl.go ⟨_, valL_fz ds, by rw [slots_fz]; exact List.nodup_nil, mS.mo (fun r as ⟨e, n, z⟩ => ?_) (fun x as ⟨e, z⟩ => ?_) q⟩
  · subst e; exact ⟨backOk_fz ds, n, by rw [putL_fz]; exact z⟩
  · subst e; exact ⟨backOk_fz ds, by rw [putL_fz]; exact z⟩
theorem sk_f (h : EvT env u false e1) (q : s2 K e1) : wSeq (wIf u s1 wSkip) s2 K env := run_if_f (K := { K with nx := fun e => s2 K e }) h q
end
theorem run_forR {tg : Tg} {body : SW} {K : Ks} {env e1 : En} {wl : AW} {n : Nat} (el : EvL env wl [.int (n : Int)] e1) (hn : n ≤ 1000) (q : loopW tg body yesK K (rngD 0 n) e1) : wFor tg (wRng1 wl) body K env := by
  change wl env (fun rs e => ∃ j, lookL e rs = some [.int j] ∧ okR j ∧ loopW tg body yesK K (rngD 0 j.toNat) e) _
  refine el.go ⟨(n : Int), rfl, by unfold okR; omega, ?_⟩
  rw [Int.toNat_natCast]
  exact q
section
variable {env e1 e2 : En} {w wa wb : EW} {x j c : Nat}
theorem dv_ok {i j : Int} (h : 1 ≤ j) (h' : j < 10 ^ 40) : CDvA i j :=
  ⟨by omega, PyProof.noPylong_of_log2 (PySem.Flt.log2_lt_of (by decide) (show j.natAbs < 2 ^ 9000 from Nat.lt_trans (show j.natAbs < 2 ^ 140 by omega) (Nat.pow_lt_pow_right (by decide) (by decide))))⟩
theorem fm_nn {i j : Int} (h : 1 ≤ j) : 0 ≤ i.fmod j ∧ i.fmod j < j := by
  rw [Int.fmod_eq_emod_of_nonneg i (by omega)]
  exact ⟨Int.emod_nonneg _ (by omega), Int.emod_lt_of_pos _ (by omega)⟩
end
end LV
namespace LV
open PySem PySem.Spec L2
end LV
namespace LV
def upI : Int → Nat → List Int
  | _, 0 => []
  | e, n + 1 => e :: upI (e + 1) n
/-- the first row of a width and a size -/
def fst : Nat → Int → List Int
  | 0, _ => []
  | 1, t => [t]
  | w + 2, t => 0 :: fst (w + 1) t
/-- the row behind r, of the same size -/
def nxt : List Int → Option (List Int)
  | [] => none
  | [_] => none
  | e :: r => match nxt r with
    | some r' => some (e :: r')
    | none => if 0 < r.sum then some ((e + 1) :: fst r.length (r.sum - 1)) else none
/-- l is what comes from the row d on; behind it stands d' -/
def aft : Option (List Int) → List (List Int) → Option (List Int) → Prop
  | d, [], d' => d = d'
  | d, r :: l, d' => d = some r ∧ aft (nxt r) l d'
theorem upI_mem : ∀ {n : Nat} {e x : Int}, x ∈ upI e n ↔ e ≤ x ∧ x < e + n
  | 0, e, x => by simp [upI]
  | n + 1, e, x => by
    rw [upI, List.mem_cons, upI_mem]
    omega
theorem nxt_cons {e : Int} {r : List Int} (h : r ≠ []) : nxt (e :: r) = match nxt r with
    | some r' => some (e :: r')
    | none => if 0 < r.sum then some ((e + 1) :: fst r.length (r.sum - 1)) else none := by
  cases r with
  | nil => exact absurd rfl h
  | cons y r => rfl
/-- behind a block of rows that begin with e -/
def bhd (w : Nat) (s e : Int) : Option (List Int) → Option (List Int)
  | some r => some (e :: r)
  | none => if 0 < s then some ((e + 1) :: fst w (s - 1)) else none
theorem blk {w : Nat} {s e : Int} (hw : 0 < w) : ∀ {l : List (List Int)} {d : Option (List Int)}, aft d l none → (∀ r ∈ l, r.sum = s ∧ r.length = w) → aft (bhd w s e d) (l.map (e :: ·)) (bhd w s e none)
  | [], d, h, _ => by cases h; rfl
  | r :: l, d, h, hl => by
    obtain ⟨h1, h2⟩ := h
    obtain ⟨hs, hwr⟩ := hl r List.mem_cons_self
    refine ⟨by rw [h1]; rfl, ?_⟩
    have ih := blk (e := e) hw h2 fun r hr => hl r (List.mem_cons_of_mem _ hr)
    have en : nxt (e :: r) = bhd w s e (nxt r) := by
      rw [nxt_cons (by intro z; rw [z] at hwr; simp at hwr; omega), hs, hwr]
      cases nxt r <;> rfl
    rw [en]
    exact ih
end LV
namespace LV
def ru : List Int → List (List Int)
  | [] => []
  | [x] => (upI 0 (x + 1).toNat).map fun e => [e]
  | x :: y :: l => (upI 0 (x + 1).toNat).flatMap fun e => (ru (y :: l)).map (e :: ·)
/-- the row behind r, under b -/
def nxu : List Int → List Int → Option (List Int)
  | b :: bs, e :: r => match nxu bs r with
    | some r' => some (e :: r')
    | none => if e < b then some ((e + 1) :: List.replicate r.length 0) else none
  | _, _ => none
def aftu (b : List Int) : Option (List Int) → List (List Int) → Option (List Int) → Prop
  | d, [], d' => d = d'
  | d, r :: l, d' => d = some r ∧ aftu b (nxu b r) l d'
theorem aftu_app {b : List Int} : ∀ {l l' : List (List Int)} {d d' d'' : Option (List Int)}, aftu b d l d' → aftu b d' l' d'' → aftu b d (l ++ l') d''
  | [], _, _, _, _, h, h' => by cases h; exact h'
  | _ :: _, _, _, _, _, h, h' => ⟨h.1, aftu_app h.2 h'⟩
/-- the rows with e in front: behind the last one stands what k says -/
theorem aftu_cons {b x e : Int} {bs : List Int} (D : Option (List Int)) (m : Nat) (hD : D = if e < b then some ((e + 1) :: List.replicate m 0) else none) : ∀ {l : List (List Int)} {d : Option (List Int)}, aftu bs d l none → (∀ r ∈ l, r.length = m) →
    (l = [] → d = none → False) → aftu (b :: bs) (match d with | some r => some (e :: r) | none => D) (l.map (e :: ·)) D
  | [], d, h, _, hn => by cases h; exact (hn rfl rfl).elim
  | r :: l, d, ⟨h1, h2⟩, hl, _ => by
    subst h1
    refine ⟨rfl, ?_⟩
    have hx : nxu (b :: bs) (e :: r) = match nxu bs r with | some r' => some (e :: r') | none => D := by
      rw [hD, ← hl r List.mem_cons_self]; rfl
    show aftu (b :: bs) (nxu (b :: bs) (e :: r)) (l.map (e :: ·)) D
    rw [hx]
    cases l with
    | nil =>
      have h2 : nxu bs r = none := h2
      rw [h2]; rfl
    | cons r2 l2 => exact aftu_cons (x := x) D m hD h2 (fun a ha => hl a (List.mem_cons_of_mem _ ha)) fun z => nomatch z
theorem ru_mem : ∀ {b r : List Int}, r ∈ ru b → r.length = b.length ∧ ∀ x ∈ r, 0 ≤ x
  | [], r, h => by simp [ru] at h
  | [x], r, h => by
    obtain ⟨e, he, rfl⟩ := List.mem_map.mp h
    refine ⟨rfl, fun y hy => ?_⟩
    rw [List.mem_singleton.mp hy]; exact (upI_mem.mp he).1
  | x :: y :: l, r, h => by
    obtain ⟨e, he, h⟩ := List.mem_flatMap.mp h
    obtain ⟨r', hr, rfl⟩ := List.mem_map.mp h
    obtain ⟨h1, h3⟩ := ru_mem hr
    refine ⟨by rw [List.length_cons, h1]; rfl, fun z hz => ?_⟩
    rcases List.mem_cons.mp hz with rfl | hz
    · exact (upI_mem.mp he).1
    · exact h3 z hz
theorem ru_ne : ∀ {b : List Int}, b ≠ [] → (∀ x ∈ b, 0 ≤ x) → ru b ≠ []
  | [], h, _ => absurd rfl h
  | [x], _, h0 => by
    have := h0 x List.mem_cons_self
    have e : (x + 1).toNat = x.toNat + 1 := by omega
    rw [ru, e, upI]; simp
  | x :: y :: l, _, h0 => by
    have := h0 x List.mem_cons_self
    have e : (x + 1).toNat = x.toNat + 1 := by omega
    have := ru_ne (b := y :: l) (by simp) fun z hz => h0 z (List.mem_cons_of_mem _ hz)
    rw [ru, e, upI, List.flatMap_cons]
    intro h
    rw [List.append_eq_nil_iff, List.map_eq_nil_iff] at h
    exact this h.1
theorem aftu_up1 {x : Int} : ∀ (n : Nat) (e : Int), e + n = x + 1 → 0 < n → aftu [x] (some [e]) ((upI e n).map fun e => [e]) none
  | 1, e, h, _ => ⟨rfl, by
      show nxu [x] [e] = none
      show (if e < x then _ else none) = none
      rw [if_neg (by omega)]⟩
  | n + 2, e, h, _ => ⟨rfl, by
      show aftu [x] (nxu [x] [e]) ((upI (e + 1) (n + 1)).map fun e => [e]) none
      have : nxu [x] [e] = some [e + 1] := by
        show (if e < x then some ((e + 1) :: List.replicate 0 0) else none) = _
        rw [if_pos (by omega)]; rfl
      rw [this]
      exact aftu_up1 (n + 1) (e + 1) (by omega) (by omega)⟩
theorem aftu_up {x : Int} {bs : List Int} {l : List (List Int)} (hl : aftu bs (some (List.replicate bs.length 0)) l none) (hm : ∀ r ∈ l, r.length = bs.length) (hn : l ≠ []) : ∀ (n : Nat) (e : Int), e + n = x + 1 → 0 < n →
    aftu (x :: bs) (some (e :: List.replicate bs.length 0)) ((upI e n).flatMap fun e => l.map (e :: ·)) none
  | 1, e, h, _ => by
    have := aftu_cons (b := x) (x := 0) (e := e) none bs.length (by rw [if_neg (by omega)]) hl hm fun z => (hn z).elim
    rw [upI, List.flatMap_cons, upI, List.flatMap_nil, List.append_nil]
    exact this
  | n + 2, e, h, _ => by
    have := aftu_cons (b := x) (x := 0) (e := e) (some ((e + 1) :: List.replicate bs.length 0)) bs.length (by rw [if_pos (by omega)]) hl hm fun z => (hn z).elim
    rw [upI, List.flatMap_cons]
    exact aftu_app this (aftu_up hl hm hn (n + 1) (e + 1) (by omega) (by omega))
theorem ru_aft : ∀ {b : List Int}, b ≠ [] → (∀ x ∈ b, 0 ≤ x) → aftu b (some (List.replicate b.length 0)) (ru b) none
  | [], h, _ => absurd rfl h
  | [x], _, h0 => aftu_up1 (x + 1).toNat 0 (by have := h0 x List.mem_cons_self; omega) (by have := h0 x List.mem_cons_self; omega)
  | x :: y :: l, _, h0 => by
    have h1 := h0 x List.mem_cons_self
    have h2 : ∀ z ∈ y :: l, 0 ≤ z := fun z hz => h0 z (List.mem_cons_of_mem _ hz)
    exact aftu_up (ru_aft (b := y :: l) (by simp) h2) (fun r hr => (ru_mem hr).1) (ru_ne (by simp) h2) (x + 1).toNat 0 (by omega) (by omega)
def stepU (b r : List Int) (k : Nat) : Option (List Int) := if r.getD k 0 < b.getD k 0 then some (r.take k ++ [r.getD k 0 + 1] ++ List.replicate (r.length - k - 1) 0) else none
def srcU (b r : List Int) : Nat → Option (List Int)
  | 0 => none
  | k + 1 => match stepU b r k with
    | some x => some x
    | none => srcU b r k
theorem stepU_cons (b e : Int) (bs r : List Int) (k : Nat) : stepU (b :: bs) (e :: r) (k + 1) = (stepU bs r k).map (e :: ·) := by
  unfold stepU
  show (if r.getD k 0 < bs.getD k 0 then some (e :: r.take k ++ [r.getD k 0 + 1] ++ List.replicate (r.length + 1 - (k + 1) - 1) 0) else none) = _
  rw [show r.length + 1 - (k + 1) - 1 = r.length - k - 1 by omega]
  split <;> rfl
theorem srcU_cons (b e : Int) (bs r : List Int) : ∀ k, srcU (b :: bs) (e :: r) (k + 1) = match srcU bs r k with
    | some x => some (e :: x)
    | none => stepU (b :: bs) (e :: r) 0
  | 0 => by
    show (match stepU (b :: bs) (e :: r) 0 with | some x => some x | none => none) = stepU (b :: bs) (e :: r) 0
    cases stepU (b :: bs) (e :: r) 0 <;> rfl
  | k + 1 => by
    show (match stepU (b :: bs) (e :: r) (k + 1) with | some x => some x | none => srcU (b :: bs) (e :: r) (k + 1)) = match (match stepU bs r k with | some x => some x | none => srcU bs r k) with | some x => some (e :: x) | none => stepU (b :: bs) (e :: r) 0
    rw [stepU_cons, srcU_cons b e bs r k]
    cases stepU bs r k <;> rfl
theorem nxu_srch : ∀ b r : List Int, b.length = r.length → nxu b r = srcU b r r.length
  | [], [], _ => rfl
  | b :: bs, e :: r, h => by
    show _ = srcU (b :: bs) (e :: r) (r.length + 1)
    have h : bs.length = r.length := Nat.succ.inj h
    rw [srcU_cons, ← nxu_srch bs r h]
    show (match nxu bs r with | some r' => some (e :: r') | none => if e < b then some ((e + 1) :: List.replicate r.length 0) else none) = _
    cases nxu bs r with
    | some x => rfl
    | none =>
      show _ = if e < b then some ([] ++ [e + 1] ++ List.replicate (r.length + 1 - 0 - 1) 0) else none
      rw [show r.length + 1 - 0 - 1 = r.length by omega]
      rfl
  | [], _ :: _, h => nomatch h
  | _ :: _, [], h => nomatch h
end LV
set_option maxHeartbeats 400000
set_option exponentiation.threshold 10000
namespace LV
open PySem PySem.Spec L2
def isInt : D → Bool
  | .int _ => true
  | _ => false
def S__law_is_integer : FSpec := fun args Q _ => ∃ d, args = [.fz d] ∧ d.plain = true ∧ Q (.fz (.bl (isInt d))) args
theorem mS__law_is_integer : MonoF S__law_is_integer := ⟨fun h _ ⟨d, a, b, q⟩ => ⟨d, a, b, h _ _ q⟩⟩
theorem kp__law_is_integer : Keeps S__law_is_integer [] 1 1 w__law_is_integer where
  fit := fun args Q E ⟨d, a, _⟩ => a ▸ fit1
  run := fun args Q E ⟨d, a, ht, q⟩ => by
    subst a
    unfold w__law_is_integer
    walk_at "lv"
    cases d <;> simp [D.ty, isInt, isaT] at ht q ⊢ <;> first | exact q | exact ⟨_, rfl, q⟩ | cases ht
def BagOk (o : O) (m : Int) : Prop := ∃ (g s n : Int) (cs : List Int), o = .lst [.int g, .int s, .int n, .lst (cs.map D.int)] ∧ 0 ≤ s ∧ s < 2147483648 ∧ 0 ≤ n ∧ n ≤ m ∧ ∀ c ∈ cs, Builtin.Int.intBits c ≤ 1048576
def S__law_take : FSpec := fun args Q _ => ∃ o many m, args = [.ow o, .fz (.int many)] ∧ BagOk o m ∧ 1 ≤ many ∧ many < 10 ^ 40 ∧ m < 1000000000 ∧ ∀ d o', 0 ≤ d → d < many → BagOk o' (m + 1) → Q (.fz (.int d)) [.ow o', .fz (.int many)]
theorem mS__law_take : MonoF S__law_take := ⟨fun h _ ⟨o, k, m, a, b, c, d, e, q⟩ => ⟨o, k, m, a, b, c, d, e, fun x y h1 h2 h3 => h _ _ (q x y h1 h2 h3)⟩⟩
theorem bits31 {i : Int} (h : -2147483648 ≤ i) (h' : i ≤ 2147483648) : Builtin.Int.intBits i ≤ 32 := PyProof.Rows.intBits_le (by omega)
theorem kp__law_take : Keeps S__law_take [0] 2 8 w__law_take where
  fit := fun args Q E ⟨o, k, m, a, _⟩ => a ▸ fitO2
  run := fun args Q E ⟨o, many, m, a, ⟨g, s, n, cs, e, s0, s1, n0, n1, hc⟩, h1, h2, hm, q⟩ => by
    subst a e
    unfold w__law_take
    refine seq_k fun K1 hn hr hb hct he => ?_
    walk_at "lv"
    refine hn _ (seq_k fun K2 hn2 hr2 hb2 hct2 he2 => ?_)
    have bag2 : ∀ g', BagOk (.lst [.int g', .int s, .int (n + 1), .lst (cs.map D.int)]) (m + 1) := fun g' => ⟨g', s, n + 1, cs, rfl, s0, s1, by omega, by omega, hc⟩
    walk_at "lv"
    refine iteB (fun hg => ?_) fun hg => ?_
    · rw [hr2]
      walk_at "lv"
      obtain ⟨f1, f2⟩ := fm_nn (i := g) h1
      exact ⟨by omega, dv_ok h1 h2, q _ _ f1 f2 (bag2 _)⟩
    · refine hn2 _ (seq_k fun K3 hn3 hr3 hb3 hct3 he3 => ?_)
      walk_at "lv"
      refine hn3 _ (seq_k fun K4 hn4 hr4 hb4 hct4 he4 => ?_)
      walk_at "lv"
      refine iteB (fun hz => ?_) fun hz => ?_
      · rw [hr4]
        walk_at "lv"
        obtain ⟨f1, f2⟩ := fm_nn (i := n + 1) h1
        exact ⟨by omega, q _ _ f1 f2 (bag2 _)⟩
      · refine hn4 _ (seq_k fun K5 hn5 hr5 hb5 hct5 he5 => ?_)
        have hcl : 1 ≤ (cs.length : Int) := by
          cases cs with
          | nil => simp at hz
          | cons c cs => rw [List.length_cons]; omega
        walk_at "lv"
        obtain ⟨f1, f2⟩ := fm_nn (i := n + 1) hcl
        rw [List.length_map]
        obtain ⟨d, hd, hdm⟩ := at_in (l := cs.map D.int) f1 (by rw [List.length_map]; exact f2)
        obtain ⟨cell, hcell, rfl⟩ := List.mem_map.mp hdm
        refine ⟨by omega, _, hd, ?_⟩
        refine hn5 _ (seq_k fun K6 hn6 hr6 hb6 hct6 he6 => ?_)
        have hcb := hc cell hcell
        walk_at "lv"
        have bn : Builtin.Int.intBits (n + 1) ≤ 32 := bits31 (by omega) (by omega)
        refine ⟨by unfold CMulX; have := bits31 (i := 48271) (by decide) (by decide); omega, by unfold CMulX; have := bits31 (i := 69621) (by decide) (by decide); omega, by decide, ?_⟩
        obtain ⟨a1, a2⟩ := fm_nn (i := cell * 48271 + (n + 1) * 69621 + s) (j := 2147483629) (by decide)
        generalize (cell * 48271 + (n + 1) * 69621 + s).fmod 2147483629 = x5 at a1 a2 ⊢
        refine hn6 _ (seq_k fun K7 hn7 hr7 hb7 hct7 he7 => ?_)
        walk_at "lv"
        have b5 : Builtin.Int.intBits x5 ≤ 32 := bits31 (by omega) (by omega)
        refine ⟨by unfold CMulX; omega, by decide, ?_⟩
        obtain ⟨c1, c2⟩ := fm_nn (i := x5 * x5 + s) (j := 2147483647) (by decide)
        generalize (x5 * x5 + s).fmod 2147483647 = x6 at c1 c2 ⊢
        refine hn7 _ (seq_k fun K8 hn8 hr8 hb8 hct8 he8 => ?_)
        walk_at "lv"
        have b6 : Builtin.Int.intBits x6 ≤ 32 := bits31 (by omega) (by omega)
        refine ⟨by unfold CMulX; omega, by decide, ?_⟩
        generalize (x6 * x6 + (n + 1)).fmod 2147483629 = x7
        refine hn8 _ ?_
        walk_at "lv"
        obtain ⟨d1, d2⟩ := fm_nn (i := x7.fdiv 64) h1
        exact ⟨dv_ok (by decide) (by decide), by omega, q _ _ d1 d2 (bag2 _)⟩
theorem BagOk.mono {o : O} {m m' : Int} (h : BagOk o m) (k : m ≤ m') : BagOk o m' :=
  let ⟨g, s, n, cs, a, b, c, d, e, f⟩ := h
  ⟨g, s, n, cs, a, b, c, d, Int.le_trans e k, f⟩
def S__law_bag : FSpec := fun args Q _ => ∃ ns : List Int, args = [.fz (.scr ns)] ∧ (∀ z ∈ ns, Builtin.Int.intBits z ≤ 1048576) ∧ ns.length ≤ 63 ∧ ∀ o, BagOk o 0 → Q (.ow o) args
theorem mS__law_bag : MonoF S__law_bag := ⟨fun h _ ⟨o, a, b, c, q⟩ => ⟨o, a, b, c, fun x y => h _ _ (q x y)⟩⟩
theorem lp__law_bag (K : Ks) (a b : Option Val) (hK : ∀ (g s : Int) (o : Option Val), 0 ≤ s → s < 2147483648 → K.nx [a, b, o, some (.fz (.int g)), some (.fz (.int s))]) : ∀ (cs : List Int) (g s : Int) (o : Option Val), 0 ≤ s → s < 2147483648 →
    loopW (.n 2) (wSeq (wSet 4 (wOp2 gMod (wBlt gInt1 (wCons (wOp2 gAdd (wOp2 gAdd (wOp2 gMulT (wVar 4) (wC (.int 31))) (wOp2 gMod (wBlt gInt1 (wCons (wVar 2) wNil)) (wC (.int 1000003)))) (wC (.int 11))) wNil)) (wC (.int 2147483647))))
      (wIf (wtAnd (wB (wOp2 gEq (wVar 3) (wC (.int 0)))) (wB (wOp2 gGe (wBlt gAbs (wCons (wVar 2) wNil)) (wOp2 gPow (wC (.int 10)) (wC (.int 18)))))) (wSet 3 (wBlt gAbs (wCons (wVar 2) wNil))) wSkip))
      yesK K (cs.map D.int) [a, b, o, some (.fz (.int g)), some (.fz (.int s))]
  | [], g, s, o, s0, s1 => ⟨True.intro, hK g s o s0 s1⟩
  | c :: cs, g, s, o, s0, s1 => by
    walk_at "lv"
    have p18 : CPow 10 18 := ⟨by decide, by decide, by decide⟩
    obtain ⟨f1, f2⟩ := fm_nn (i := s * 31 + c.fmod 1000003 + 11) (j := 2147483647) (by decide)
    generalize (s * 31 + c.fmod 1000003 + 11).fmod 2147483647 = s' at f1 f2 ⊢
    have bs : Builtin.Int.intBits s ≤ 32 := bits31 (by omega) (by omega)
    have b31 : Builtin.Int.intBits 31 ≤ 32 := bits31 (by decide) (by decide)
    refine ⟨by unfold CMulX; omega, by decide, by decide, iteB (fun _ => ⟨p18, iteB (fun _ => ?_) fun _ => ?_⟩) fun _ => ?_⟩
    · exact lp__law_bag K a b hK cs _ _ _ (by omega) (by omega)
    · exact lp__law_bag K a b hK cs _ _ _ (by omega) (by omega)
    · exact lp__law_bag K a b hK cs _ _ _ (by omega) (by omega)
theorem kp__law_bag : Keeps S__law_bag [] 1 5 w__law_bag where
  fit := fun args Q E ⟨o, a, _⟩ => a ▸ fit1
  run := fun args Q E ⟨ns, a, hz, hl, q⟩ => by
    subst a
    unfold w__law_bag
    refine seq_k fun K1 hn hr hb hct he => ?_
    unfold wLc
    walk_at "lv"
    simp only [wipeE, List.set_cons_zero, List.set_cons_succ]
    have hcs : ∃ cs : List Int, cutD (ns.map D.int) none (some 63) = cs.map D.int ∧ (∀ c ∈ cs, Builtin.Int.intBits c ≤ 1048576) ∧ cs.length ≤ 63 := by
      refine ⟨ns.take 63, ?_, fun c hc => hz c (List.mem_of_mem_take hc), by rw [List.length_take]; omega⟩
      rw [show (63 : Int) = ((63 : Nat) : Int) from rfl, cut_take, List.map_take]
    obtain ⟨cs, ec, hc, cl⟩ := hcs
    rw [ec]
    refine cw_map id True.intro _ (fun d hd => ?_) (by rw [List.length_map, sizeLine_eq]; omega) ?_
    · obtain ⟨c, hc, rfl⟩ := List.mem_map.mp hd
      exact ⟨_, rfl, rfl, fun G g => by walk_at "lv"; exact g⟩
    rw [List.map_id]
    refine hn _ (seq_k fun K2 hn2 hr2 hb2 hct2 he2 => ?_)
    walk_at "lv"
    refine hn2 _ (seq_k fun K3 hn3 hr3 hb3 hct3 he3 => ?_)
    walk_at "lv"
    refine hn3 _ (seq_k fun K4 hn4 hr4 hb4 hct4 he4 => ?_)
    have fin : ∀ (g s : Int) (o : Option Val) (cv : Val), cv = .fz (.lst (cs.map D.int)) → 0 ≤ s → s < 2147483648 → K4.nx [some (.fz (.scr ns)), some cv, o, some (.fz (.int g)), some (.fz (.int s))] := fun g s o cv ecv s0 s1 => by
      subst ecv
      refine hn4 _ ?_
      walk_at "lv"
      have sz := sizeLine_eq
      exact ⟨by omega, q _ ⟨g, s, 0, cs, rfl, s0, s1, Int.le_refl 0, Int.le_refl 0, hc⟩⟩
    walk_at "lv"
    exact lp__law_bag K4 _ _ (fun g s o s0 s1 => fin g s o _ rfl s0 s1) cs 0 7 none (by decide) (by decide)
theorem bag_nn {o : O} {m : Int} (h : BagOk o m) : ∀ xs, o ≠ .nst xs := by
  obtain ⟨g, s, n, cs, e, _⟩ := h
  intro xs z
  rw [e] at z
  cases z
def S__law_is_row : FSpec := fun args Q _ => ∃ (r : List Int) (w : Nat), args = [.fz (rowD r), .fz (.int w)] ∧ r.length = w ∧ w ≤ 1000 ∧ (∀ x ∈ r, 0 ≤ x) ∧ Q (.fz (.bl true)) args
theorem mS__law_is_row : MonoF S__law_is_row := ⟨fun h _ ⟨w, o, a, b, c, e, q⟩ => ⟨w, o, a, b, c, e, h _ _ q⟩⟩
theorem kp__law_is_row : Keeps S__law_is_row [] 2 3 (w__law_is_row S__law_is_integer) where
  fit := fun args Q E ⟨w, xs, a, _⟩ => a ▸ fit2
  run := fun args Q E ⟨r, w, a, h1, hw, h0, q⟩ => by
    subst a
    unfold w__law_is_row wLc
    have ty : (rowD r).ty = some .tup := rfl
    simp_all! only [ty]
    simp only [isaT, decide_true, Bool.not_true]
    rw [List.length_map, h1]
    refine iteB (fun h => (nomatch h)) fun _ => iteB (fun h => ?_) fun _ => ?_
    · simp at h
    · have sz := sizeLine_eq
      simp only [wipeE, List.set_cons_zero, List.set_cons_succ]
      refine cw_map (fun _ => .bl true) True.intro _ (fun d hd => ?_) (by rw [List.length_map]; omega) ?_
      · obtain ⟨x, hx, rfl⟩ := List.mem_map.mp hd
        refine ⟨_, rfl, rfl, fun G g => ?_⟩
        walk_at "lv"
        simp only [S__law_is_integer]
        walk_at "lv"
        refine ⟨rfl, ?_⟩
        simp_all! only [isInt]
        simp only [List.set_cons_zero, List.set_cons_succ] at g
        rw [decide_eq_true (h0 x hx)]
        exact g
      · refine ⟨List.replicate r.length true, ?_, ?_⟩
        · rw [List.map_map]
          simp [Function.comp_def, List.map_const']
        · rw [show (List.replicate r.length true).all id = true by simp]
          exact q
end LV
namespace LV
open PySem PySem.Spec L2
section
variable {env e1 e2 : En} {w : EW} {wl : AW} {u : TW} {w1 w2 gb : GSW} {K : GKs} {rem rem' : List D} {d : D} {S : GSpec} {ds items : List D} {tg : Tg}
theorem gif_t (h : EvT env u true e1) (q : w1 K rem e1) : gIf u w1 w2 K rem env := h.go (by rw [if_pos rfl]; exact q)
theorem gif_f (h : EvT env u false e1) (q : w2 K rem e1) : gIf u w1 w2 K rem env := h.go (by rw [if_neg Bool.false_ne_true]; exact q)
theorem gyield (h : Ev env w d e1) (n : NoOw e1) (q : K.nx rem e1) : gYield w K (d :: rem) env := h.go ⟨d, e1, rem, rfl, rfl, n, q⟩
theorem gforG (hl : EvL env wl ds e1) (hS : S ds items none) (q : gLoopG tg gb K items rem e1) : gForG tg S wl gb K rem env := hl.go ⟨ds, e1, items, none, frzL_fz' ds, hS, rfl, q⟩
/-- each item gives one -/
theorem gLoopG_map {α : Type} {g f : α → D} (envo : Option Val → En) (hb : ∀ x, ∀ o, bindT tg (g x) (envo o) = some (envo (some (.fz (g x))))) : ∀ (l : List α) (o : Option Val), (∀ x ∈ l, ∀ (K' : GKs) rem, K'.nx rem (envo (some (.fz (g x)))) → gb K' (f x :: rem) (envo (some (.fz (g x))))) →
    (∀ o, K.nx rem (envo o)) → gLoopG tg gb K (l.map g) (l.map f ++ rem) (envo o)
  | [], o, _, q => q o
  | x :: l, o, h, q => ⟨_, hb x o, h x List.mem_cons_self { K with nx := gLoopG tg gb K (l.map g), ct := gLoopG tg gb K (l.map g), bk := K.nx } (l.map f ++ rem) (gLoopG_map envo hb l _ (fun y hy => h y (List.mem_cons_of_mem _ hy)) q)⟩
/-- each turn gives a block -/
theorem gLoop_flat {α : Type} {g : α → D} {f : α → List D} {keep : KeepE} (P : En → Prop) (hk : ∀ e, P e → keep e) : ∀ (l : List α) (e : En), P e → (∀ x ∈ l, ∀ e, P e → ∃ e', bindT tg (g x) e = some e' ∧ ∀ (K' : GKs) rem, (∀ e, P e → K'.nx rem e) → gb K' (f x ++ rem) e') →
    (∀ e, P e → K.nx rem e) → gLoop tg gb keep K (l.map g) (l.flatMap f ++ rem) e
  | [], e, p, _, q => ⟨hk e p, q e p⟩
  | x :: l, e, p, h, q => by
    obtain ⟨e', b, hb⟩ := h x List.mem_cons_self e p
    refine ⟨hk e p, e', b, ?_⟩
    rw [List.flatMap_cons, List.append_assoc]
    exact hb { K with nx := gLoop tg gb keep K (l.map g), ct := gLoop tg gb keep K (l.map g), bk := K.nx } (l.flatMap f ++ rem) fun e p => gLoop_flat P hk l e p (fun y hy => h y (List.mem_cons_of_mem _ hy)) q
theorem noow_fz {l : List (Option Val)} (h : ∀ v ∈ l, v = none ∨ ∃ d, v = some (.fz d)) : NoOw l := fun i v hv => by
  rcases h (some v) (List.mem_of_getElem? hv) with z | ⟨d, z⟩
  · cases z
  · cases z; exact ⟨d, rfl⟩
end
end LV
namespace LV
open PySem PySem.Spec L2
def S_rows_under_d (n : Nat) : GSpec := fun ds items x => ∃ b : List Int, ds = [rowD b] ∧ 1 ≤ b.length ∧ b.length ≤ n ∧ n ≤ 8 ∧ items = (ru b).map rowD ∧ x = none
def S_rows_under : GSpec := S_rows_under_d 8
theorem z_rows_under : ∀ ds items y, S_rows_under_d 0 ds items y → GNone ds items y := fun ds items y ⟨b, _, h1, h2, _⟩ => by omega
theorem in_rows_under : ∀ ds items y, S_rows_under ds items y → S_rows_under_d 8 ds items y := fun _ _ _ h => h
theorem nS_rows_under {K : PySem.W.Frag} {mg : Str → Option Value} : GNo K mg S_rows_under := fun ds items x ⟨_, _, _, _, _, _, h⟩ xx e => by rw [h] at e; cases e
theorem rngD_up : ∀ (n : Nat) (e : Int), rngD e n = (upI e n).map D.int
  | 0, _ => rfl
  | n + 1, e => by rw [rngD, upI, List.map_cons, rngD_up n (e + 1)]
theorem ev_t1 {env : En} {w : EW} {d : D} (h : Ev env w d env) : EvR env (wTup (wCons w wNil)) (.fz (.tup [d])) env := ev_tup (evl_cons h evl_nil) (by have := sizeLine_eq; simp; omega)
theorem map_one (l : List Int) : (l.map fun e => [e]) = l.flatMap fun e => [[e]] := by
  induction l with
  | nil => rfl
  | cons a l ih => rw [List.map_cons, List.flatMap_cons, ih]; rfl
theorem kp_rows_under_d (n : Nat) : GKeeps (S_rows_under_d (n + 1)) 1 3 (w_rows_under (S_rows_under_d n)) where
  len := fun ds items x ⟨b, h, _⟩ => by rw [h]; rfl
  run := fun ds items x ⟨b, h, b1, bn, n8, hi, hx⟩ => by
    subst h hi hx
    unfold w_rows_under
    show gSeq _ _ (gTop none) ((ru b).map rowD) [some (.fz (rowD b)), none, none]
    unfold gSeq
    have hlen : EvR [some (.fz (rowD b)), none, none] (wBlt gLen (wCons (wVar 0) wNil)) (.fz (.int (b.length : Int))) [some (.fz (rowD b)), none, none] := by
      have := ev_lent (ds := b.map D.int) (vx 0 (env := [some (.fz (rowD b)), none, none]) rfl)
      rw [List.length_map] at this
      exact this
    match b, b1, hlen with
    | [x], _, hlen =>
      refine gif_t (evt_B (ev_eqi' hlen.fz cx (by rfl))) ?_
      show gFor _ (wRngB _) _ _ _ [some (.fz (rowD [x])), none, none]
      unfold gFor wRngB
      refine (evl_cons (ev_addi (ev_op (vx 0 (d := .tup [.int x]) rfl) cx fun Q' q => ix_tup (j := 0) rfl q).fz (cx (d := .int 1))).fz evl_nil).go ⟨x + 1, rfl, ?_⟩
      rw [rngD_up, ru, map_one, List.map_flatMap, ← List.append_nil (List.flatMap _ _)]
      refine gLoop_flat (fun e => ∃ o, e = [some (.fz (rowD [x])), o, none]) (fun _ _ => True.intro) (upI 0 (x + 1).toNat) _ ⟨none, rfl⟩ (fun y hy e ⟨o, he⟩ => ?_) fun e _ => ⟨rfl, rfl⟩
      subst he
      refine ⟨_, rfl, fun K' rem hK => ?_⟩
      exact gyield (d := rowD [y]) (e1 := [some (.fz (rowD [x])), some (.fz (.int y)), none]) (ev_t1 (vx 1 rfl)).fz (noow_fz (by simp)) (hK _ ⟨_, rfl⟩)
    | x :: y :: l, _, hlen =>
      refine gif_f (evt_B (ev_eqi' hlen.fz cx (decide_eq_false (by rw [List.length_cons, List.length_cons]; omega)))) ?_
      show gFor _ (wRngB _) _ _ _ [some (.fz (rowD (x :: y :: l))), none, none]
      unfold gFor wRngB
      refine (evl_cons (ev_addi (ev_op (vx 0 (d := .tup (.int x :: (y :: l).map D.int)) rfl) cx fun Q' q => ix_tup (j := 0) rfl q).fz (cx (d := .int 1))).fz evl_nil).go ⟨x + 1, rfl, ?_⟩
      rw [rngD_up, ru, List.map_flatMap, ← List.append_nil (List.flatMap _ _)]
      refine gLoop_flat (fun e => ∃ o p, e = [some (.fz (rowD (x :: y :: l))), o, p]) (fun _ _ => True.intro) (upI 0 (x + 1).toNat) _ ⟨none, none, rfl⟩ (fun z hz e ⟨o, p, he⟩ => ?_) fun e _ => ⟨rfl, rfl⟩
      subst he
      refine ⟨_, rfl, fun K' rem hK => ?_⟩
      show gForG _ _ _ _ _ _ [some (.fz (rowD (x :: y :: l))), some (.fz (.int z)), p]
      refine gforG (ds := [rowD (y :: l)]) (items := (ru (y :: l)).map rowD) (evl_cons (ev_frz (by
        have := (ev_slTL (ds := (x :: y :: l).map D.int) (vx 0 (env := [some (.fz (rowD (x :: y :: l))), some (.fz (.int z)), p]) rfl) (ev_c (d := .int ((1 : Nat) : Int)))).fz
        rw [cut_drop, ← List.map_drop] at this
        exact this)).fz evl_nil) ⟨y :: l, rfl, by simp, by simp at bn ⊢; omega, by omega, rfl, rfl⟩ ?_
      rw [List.map_map]
      refine gLoopG_map (fun o => [some (.fz (rowD (x :: y :: l))), some (.fz (.int z)), o]) (fun _ _ => rfl) (ru (y :: l)) p (fun r hr K2 rem2 h2 => ?_) fun o => hK _ ⟨_, _, rfl⟩
      have hl := (ru_mem hr).1
      refine gyield (d := rowD (z :: r)) (e1 := [some (.fz (rowD (x :: y :: l))), some (.fz (.int z)), some (.fz (rowD r))]) ?_ (noow_fz (by simp)) h2
      exact (ev_catt (as := [.int z]) (bs := r.map D.int) (ev_t1 (vx 1 rfl)).fz (vx 2 rfl) (by rw [List.length_map, hl]; simp at bn ⊢; omega)).fz
end LV
namespace LV
open PySem PySem.Spec L2
section
variable {o : O} {i : Nat} {env e1 : En} {wl : AW} {ds : List D} {Q : Rv → En → Prop} {E : XW}
theorem call_bag {S : FSpec} (mS : MonoF S) (nn : ∀ xs, o ≠ .nst xs) (h : env[i]? = some (some (.ow o))) (hl : EvL env wl ds e1) (h1 : e1[i]? = some (some (.ow o)))
    (q : S (.ow o :: ds.map .fz) (fun r as => ∃ o', as = .ow o' :: ds.map .fz ∧ (∀ i, r ≠ .sl i) ∧ Q r (e1.set i (some (.ow o')))) fun _ _ => False) : wCall S (wCons (wVar i) wl) env Q E := by
  simp only [wCall, wCons, wFz, wVar, h]
  refine hl.go (Q := fun rs e => ∃ args, valL e (.sl i :: rs) = some args ∧ (slotsOf (.sl i :: rs)).Nodup ∧ S args (fun r' args' => backOk args args' = true ∧ (∀ i, r' ≠ .sl i) ∧ Q r' (putL e (.sl i :: rs) args')) fun x args' => backOk args args' = true ∧ E x (putL e (.sl i :: rs) args')) ?_
  refine ⟨.ow o :: ds.map .fz, ?_, ?_, mS.mo (fun r as ⟨o', e, n, z⟩ => ?_) (fun x as z => z.elim) q⟩
  · show (match valOf e1 (.sl i), valL e1 (ds.map Rv.fz) with | some a, some as => some (a :: as) | _, _ => none) = _
    have e : valOf e1 (.sl i) = some (.ow o) := by cases o <;> first | exact absurd rfl (nn _) | simp only [valOf, h1]
    rw [valL_fz ds, e]
  · show (i :: slotsOf (ds.map Rv.fz)).Nodup
    rw [slots_fz]
    exact List.nodup_cons.mpr ⟨fun z => (nomatch z), .nil⟩
  · subst e
    refine ⟨backOk_fz ds, n, ?_⟩
    show Q r ((putL e1 (ds.map Rv.fz) (ds.map Val.fz)).set i (some (.ow o')))
    rw [putL_fz]
    exact z
end
theorem nat_ofI {i : Int} (h : 0 ≤ i) : ∃ n : Nat, i = (n : Int) := ⟨i.toNat, by omega⟩
end LV
namespace LV
open PySem PySem.Spec L2
def optD : Option (List Int) → D
  | some r => rowD r
  | none => .non
def S__law_next : FSpec := fun args Q _ => ∃ r b : List Int, args = [.fz (rowD r), .fz (rowD b)] ∧ r.length ≤ 8 ∧ b.length = r.length ∧ Q (.fz (optD (nxu b r))) args
theorem mS__law_next : MonoF S__law_next := ⟨fun h _ ⟨r, w, a, b, c, q⟩ => ⟨r, w, a, b, c, h _ _ q⟩⟩
def nxB : SW := (wIf (wB (wOp2 gLt (wOp2 gIx (wVar 0) (wVar 2)) (wOp2 gIx (wVar 1) (wVar 2))))
  (wRet [] (wOp2 gAdd (wOp2 gAdd (wSl (wVar 0) wNoP (wPt (wVar 2))) (wTup (wCons (wOp2 gAdd (wOp2 gIx (wVar 0) (wVar 2)) (wC (.int 1))) wNil))) (wOp2 gMulZ (wTup (wCons (wC (.int 0)) wNil)) (wOp2 gSub (wOp2 gSub (wBlt gLen (wCons (wVar 0) wNil)) (wVar 2)) (wC (.int 1))))))
  wSkip)
abbrev En3 (r b : List Int) (o : Option Val) : En := [some (.fz (rowD r)), some (.fz (rowD b)), o]
theorem lp_nxt {K : Ks} {r b : List Int} (r8 : r.length ≤ 8) (hb : b.length = r.length) : ∀ (k : Nat) (o : Option Val), k ≤ r.length → (∀ r', srcU b r k = some r' → ∀ e, K.rt (.fz (rowD r')) e) → (srcU b r k = none → ∀ o, K.nx (En3 r b o)) →
    loopW (.n 2) nxB yesK K (rngC ((k : Int) - 1) (-1) k) (En3 r b o)
  | 0, o, _, _, h => ⟨True.intro, h rfl o⟩
  | k + 1, o, hk, hr, h => by
    refine ⟨True.intro, _, rfl, ?_⟩
    have e1 : ((k + 1 : Nat) : Int) - 1 = (k : Int) := by omega
    rw [e1]
    obtain ⟨en, hen⟩ : ∃ en, en = En3 r b (some (.fz (.int (k : Int)))) := ⟨_, rfl⟩
    have x0 : en[0]? = some (some (.fz (rowD r))) := by rw [hen]; rfl
    have x1 : en[1]? = some (some (.fz (rowD b))) := by rw [hen]; rfl
    have x2 : en[2]? = some (some (.fz (.int (k : Int)))) := by rw [hen]; rfl
    have kl : k < r.length := by omega
    have kb : k < b.length := by omega
    have ex : r.getD k 0 = r[k] := by simp [List.getD, kl]
    have eb : b.getD k 0 = b[k] := by simp [List.getD, kb]
    change nxB _ (En3 r b (some (.fz (.int (k : Int)))))
    rw [← hen]
    unfold nxB
    have i0 : EvR en (wOp2 gIx (wVar 0) (wVar 2)) (.fz (.int (r.getD k 0))) en := ev_op (vx 0 (d := .tup (r.map D.int)) x0) (vx 2 x2) fun Q' q => ix_tup (by rw [List.getElem?_map, List.getElem?_eq_getElem kl]; rfl) (by rw [ex] at q; exact q)
    have i1 : EvR en (wOp2 gIx (wVar 1) (wVar 2)) (.fz (.int (b.getD k 0))) en := ev_op (vx 1 (d := .tup (b.map D.int)) x1) (vx 2 x2) fun Q' q => ix_tup (by rw [List.getElem?_map, List.getElem?_eq_getElem kb]; rfl) (by rw [eb] at q; exact q)
    by_cases hs : r.getD k 0 < b.getD k 0
    · refine run_if_t (evt_B (ev_lti i0.fz i1.fz (decide_eq_true hs))) ?_
      have st : stepU b r k = some (r.take k ++ [r.getD k 0 + 1] ++ List.replicate (r.length - k - 1) 0) := by unfold stepU; rw [if_pos hs]
      have a1 : EvR en (wSl (wVar 0) wNoP (wPt (wVar 2))) (.fz (.tup ((r.take k).map D.int))) en := by
        have := ev_slTR (ds := r.map D.int) (vx 0 x0) (ev_var (i := 2) x2)
        rw [cut_take, ← List.map_take] at this
        exact this
      have a2 : EvR en (wTup (wCons (wOp2 gAdd (wOp2 gIx (wVar 0) (wVar 2)) (wC (.int 1))) wNil)) (.fz (.tup ([r.getD k 0 + 1].map D.int))) en := ev_t1 (ev_addi i0.fz cx).fz
      have a3 : EvR en (wOp2 gMulZ (wTup (wCons (wC (.int 0)) wNil)) (wOp2 gSub (wOp2 gSub (wBlt gLen (wCons (wVar 0) wNil)) (wVar 2)) (wC (.int 1)))) (.fz (.tup ((List.replicate (r.length - k - 1) (0 : Int)).map D.int))) en := by
        have hl := ev_lent (ds := r.map D.int) (vx 0 x0)
        have hb := (ev_subi (ev_subi hl.fz (vx 2 x2)).fz (cx (d := .int 1))).fz
        rw [List.length_map, show (r.length : Int) - (k : Int) - 1 = ((r.length - k - 1 : Nat) : Int) by omega] at hb
        exact ev_op (ev_t1 cx).fz hb fun Q' q => gMulZ_rep (by omega) (by rw [List.map_replicate] at q; exact q)
      have c1 := ev_catt a1.fz a2.fz (by simp; omega)
      have c2 := ev_catt c1.fz a3.fz (by simp; omega)
      refine run_ret c2 ?_
      have := hr _ (by rw [srcU, st]) en
      rw [rowD, List.map_append, List.map_append] at this
      exact this
    · refine run_if_f (evt_B (ev_lti i0.fz i1.fz (decide_eq_false hs))) ?_
      have st : stepU b r k = none := by unfold stepU; rw [if_neg hs]
      have e2 : (k : Int) + -1 = (k : Int) - 1 := by omega
      rw [e2, hen]
      exact lp_nxt r8 hb k _ (by omega) (fun r' h' => hr r' (by rw [srcU, st]; exact h')) fun h' => h (by rw [srcU, st]; exact h')
theorem kp__law_next : Keeps S__law_next [] 2 3 w__law_next where
  fit := fun args Q E ⟨r, b, a, _⟩ => a ▸ fit2
  run := fun args Q E ⟨r, b, a, r8, hb, q⟩ => by
    subst a
    unfold w__law_next
    change wSeq (wFor _ (wRng3 _) nxB) _ _ (En3 r b none)
    refine seq_k fun K1 hn1 hr1 _ _ _ => ?_
    unfold wFor wRng3
    have hl := ev_subi (ev_lent (ds := r.map D.int) (vx 0 (env := En3 r b none) rfl)).fz (cx (d := .int 1))
    rw [List.length_map] at hl
    refine (evl_cons hl.fz (evl_cons ev_neg.fz (evl_cons ev_neg.fz evl_nil))).go ⟨_, _, _, r.length, rfl, ?_, ?_⟩
    · have := RgC.neg (i := (r.length : Int) - 1) (j := -1) (by omega) (by omega) (by decide) (by decide)
      rw [show ((r.length : Int) - 1 - -1).toNat = r.length by omega] at this
      exact this
    · rw [nxu_srch b r hb] at q
      refine lp_nxt r8 hb r.length none (by omega) (fun r' h e => ?_) fun h o => ?_
      · rw [h] at q
        rw [hr1]
        exact ⟨_, rfl, q⟩
      · rw [h] at q
        exact hn1 _ (run_ret ev_c ⟨_, rfl, q⟩)
def yB : SW := (wSeq (wIf (wB (wOp2 gEq (wVar 3) (wVar 1)))
  (wRet [] (wC (.bl true)))
  wSkip)
  (wSeq (wIf (wtOr (wB (wOp2 gIsN (wVar 2) (wC .non))) (wtOr (wtNot (wTru (wCall S__law_is_row (wCons (wFrz (wVar 4)) (wCons (wFrz (wBlt gLen (wCons (wVar 0) wNil))) wNil))))) (wB (wOp2 gNe (wVar 4) (wVar 2)))))
  (wRet [] (wC (.bl false)))
  wSkip)
  (wSeq (wSet 2 (wCall S__law_next (wCons (wFrz (wVar 2)) (wCons (wFrz (wVar 0)) wNil))))
  (wSet 3 (wOp2 gAdd (wVar 3) (wC (.int 1)))))))
abbrev E5 (b : List Int) (most : Int) (due : Option (List Int)) (cnt : Int) (o : Option Val) : En := [some (.fz (rowD b)), some (.fz (.int most)), some (.fz (optD due)), some (.fz (.int cnt)), o]
theorem lp_y {K : Ks} {b : List Int} {most : Int} (w1 : 1 ≤ b.length) (w8 : b.length ≤ 8) (hr : ∀ e, K.rt (.fz (.bl true)) e) (hn : ∀ cnt o, K.nx (E5 b most none cnt o)) : ∀ (l : List (List Int)) (due : Option (List Int)) (cnt : Int) (o : Option Val), aftu b due l none → (∀ r ∈ l, r.length = b.length ∧ ∀ x ∈ r, 0 ≤ x) → loopG (.n 4) yB none K (l.map rowD) (E5 b most due cnt o)
  | [], due, cnt, o, h, _ => by cases h; exact hn cnt o
  | r :: l, due, cnt, o, ⟨h1, h2⟩, hl => by
    subst h1
    obtain ⟨hw, h0⟩ := hl r List.mem_cons_self
    refine ⟨_, rfl, ?_⟩
    change yB _ (E5 b most (some r) cnt (some (.fz (rowD r))))
    unfold yB
    by_cases hc : cnt = most
    · refine seq_k fun K1 _ hr1 _ _ _ => run_if_t (evt_B (ev_eqi' (vx 3 rfl) (vx 1 rfl) (decide_eq_true hc))) (run_ret ev_c ?_)
      rw [hr1]; exact hr _
    · have ne : EvR (E5 b most (some r) cnt (some (.fz (rowD r)))) (wOp2 gNe (wVar 4) (wVar 2)) (.fz (.bl false)) (E5 b most (some r) cnt (some (.fz (rowD r)))) :=
        ev_op (a := rowD r) (b := rowD r) (vx 4 rfl) (vx 2 rfl) fun Q' q => ⟨okE_row r, okE_row r, by rw [eqv_row, decide_eq_true rfl]; exact q⟩
      have nn : EvR (E5 b most (some r) cnt (some (.fz (rowD r)))) (wOp2 gIsN (wVar 2) (wC .non)) (.fz (.bl false)) (E5 b most (some r) cnt (some (.fz (rowD r)))) := ev_isN (d := rowD r) (vx 2 rfl)
      have hlen : EvR (E5 b most (some r) cnt (some (.fz (rowD r)))) (wFrz (wBlt gLen (wCons (wVar 0) wNil))) (.fz (.int (b.length : Int))) (E5 b most (some r) cnt (some (.fz (rowD r)))) := by
        have := ev_frz (ev_lent (ds := b.map D.int) (vx 0 (env := E5 b most (some r) cnt (some (.fz (rowD r)))) rfl)).fz
        rw [List.length_map] at this
        exact this
      refine sk_f (evt_B (ev_eqi' (vx 3 rfl) (vx 1 rfl) (decide_eq_false hc))) ?_
      refine sk_f (evt_or_f (evt_B nn) (evt_or_f (evt_not (evt_trub (ev_call (S := S__law_is_row) (ds := [rowD r, .int (b.length : Int)]) (r := .fz (.bl true)) (evl_cons (fx 4 rfl) (evl_cons hlen.fz evl_nil)) (fun q => ⟨r, b.length, rfl, hw, by omega, h0, q⟩) fun i z => by cases z))) (evt_B ne))) ?_
      refine seq_k fun K1 hn1 _ _ _ _ => run_set (i := 2) (ev_call (S := S__law_next) (ds := [rowD r, rowD b]) (evl_cons (fx 2 rfl) (evl_cons (fx 0 rfl) evl_nil)) (fun q => ⟨r, b, rfl, by omega, by omega, q⟩) fun i z => by cases z) (hn1 _ ?_)
      change wSet _ _ _ (E5 b most (nxu b r) cnt (some (.fz (rowD r))))
      exact run_set (i := 3) (ev_addi (vx 3 rfl) cx) (lp_y w1 w8 hr hn l (nxu b r) (cnt + 1) _ h2 fun a ha => hl a (List.mem_cons_of_mem _ ha))
def S__law_yielded : FSpec := fun args Q _ => ∃ (b : List Int) (most : Int), args = [.fz (rowD b), .fz (.int most)] ∧ 1 ≤ b.length ∧ b.length ≤ 8 ∧ (∀ x ∈ b, 0 ≤ x) ∧ Q (.fz (.bl true)) args
theorem mS__law_yielded : MonoF S__law_yielded := ⟨fun h _ ⟨w, m, a, b, c, d, q⟩ => ⟨w, m, a, b, c, d, h _ _ q⟩⟩
theorem kp__law_yielded : Keeps S__law_yielded [] 2 5 (w__law_yielded S_rows_under S__law_is_row S__law_next) where
  fit := fun args Q E ⟨b, m, a, _⟩ => a ▸ fit2
  run := fun args Q E ⟨b, most, a, w1, w8, h0, q⟩ => by
    subst a
    unfold w__law_yielded
    obtain ⟨en, hen⟩ : ∃ en : En, en = [some (.fz (rowD b)), some (.fz (.int most)), none, none, none] := ⟨_, rfl⟩
    change wSeq _ _ _ [some (.fz (rowD b)), some (.fz (.int most)), none, none, none]
    refine seq_k fun K1 hn1 _ _ _ _ => ?_
    have hb := ev_lent (ds := b.map D.int) (vx 0 (env := [some (.fz (rowD b)), some (.fz (.int most)), none, none, none]) rfl)
    rw [List.length_map] at hb
    have a1 := ev_op (g := gMulZ) (ev_t1 (cx (env := [some (.fz (rowD b)), some (.fz (.int most)), none, none, none]) (d := .int 0))).fz hb.fz (r := .fz (.tup ((List.replicate b.length (0 : Int)).map D.int))) fun Q' q => gMulZ_rep (by omega) (by rw [List.map_replicate] at q; exact q)
    refine run_set (i := 2) a1 (hn1 _ ?_)
    change wSeq _ _ _ [some (.fz (rowD b)), some (.fz (.int most)), some (.fz (rowD (List.replicate b.length 0))), none, none]
    refine seq_k fun K2 hn2 _ _ _ _ => run_set (i := 3) ev_c (hn2 _ ?_)
    change wSeq (wForG _ _ _ yB) _ _ (E5 b most (some (List.replicate b.length 0)) 0 none)
    refine seq_k fun K3 hn3 hr3 _ _ _ => ?_
    unfold wForG wGen
    refine (evl_cons (fx 0 rfl) evl_nil).go ⟨[rowD b], _, (ru b).map rowD, none, frzL_fz' _, ⟨b, rfl, w1, w8, by decide, rfl, rfl⟩, ?_⟩
    have bne : b ≠ [] := fun z => by rw [z] at w1; exact absurd w1 (by decide)
    refine lp_y w1 w8 (fun e => ?_) (fun cnt o => hn3 _ ?_) (ru b) _ _ _ (ru_aft bne h0) fun r hr => ru_mem hr
    · rw [hr3]; exact ⟨_, rfl, q⟩
    · exact run_ret (ev_isN (vx 2 rfl)) ⟨_, rfl, q⟩
end LV
namespace LV
open PySem PySem.Spec L2
section
variable {env : En} {o : O} {m : Nat} {i : Nat} {Q : Rv → En → Prop} {E : XW}
theorem take_i (i : Nat) {n : Int} {wn : EW} (hw : Ev env wn (.int n) env) (h : env[i]? = some (some (.ow o))) (bg : BagOk o (m : Int)) (hm : m + 1 ≤ 100000) (h1 : 1 ≤ n) (h2 : n < 10 ^ 40) (q : ∀ x o', 0 ≤ x → x < n → BagOk o' ((m + 1 : Nat) : Int) → Q (.fz (.int x)) (env.set i (some (.ow o')))) : wCall S__law_take (wCons (wVar i) (wCons wn wNil)) env Q E :=
  call_bag (i := i) (o := o) (ds := [.int n]) mS__law_take (bag_nn bg) h (evl_cons hw evl_nil) h ⟨o, n, (m : Int), rfl, bg, h1, h2, by omega, fun d o' d0 d1 b => ⟨o', rfl, (fun _ z => nomatch z), q d o' d0 d1 b⟩⟩
/-- a call that hands on the bag and one more than what is drawn below 8 -/
theorem call_w {S : FSpec} (mS : MonoF S) (hi : i < env.length) (h : env[i]? = some (some (.ow o))) (bg : BagOk o (m : Int)) (hm : m + 1 ≤ 100000) (q : ∀ (w : Nat) o', 1 ≤ w → w ≤ 8 → BagOk o' ((m + 1 : Nat) : Int) → S [.ow o', .fz (.int (w : Int))] (fun r as => ∃ o'', as = [.ow o'', .fz (.int (w : Int))] ∧ (∀ i, r ≠ .sl i) ∧ Q r (env.set i (some (.ow o'')))) fun _ _ => False) :
    wCall S (wCons (wVar i) (wCons (wFrz (wOp2 gAdd (wC (.int 1)) (wCall S__law_take (wCons (wVar i) (wCons (wC (.int 8)) wNil))))) wNil)) env Q E := by
  simp only [wCall, wCons, wFz, wVar, h]
  unfold wFrz wFz wOp2
  refine cx.go ?_
  unfold wFz
  refine take_i i cx h bg hm (by decide) (by decide) fun x o' x0 x1 bg1 => ?_
  refine ⟨.int 1, .int x, rfl, rfl, ?_⟩
  rw [gAdd_ii]
  obtain ⟨w, hw⟩ := nat_ofI (i := 1 + x) (by omega)
  rw [hw]
  refine ⟨.int (w : Int), _, rfl, ?_⟩
  have hx : (env.set i (some (.ow o')))[i]? = some (some (.ow o')) := by rw [List.getElem?_set_self hi]
  refine ⟨[.ow o', .fz (.int (w : Int))], ?_, ?_, mS.mo (fun r as ⟨o'', e, n, z⟩ => ?_) (fun x as z => z.elim) (q w o' (by omega) (by omega) bg1)⟩
  · show (match valOf (env.set i (some (.ow o'))) (.sl i), valL (env.set i (some (.ow o'))) [.fz (.int (w : Int))] with | some a, some as => some (a :: as) | _, _ => none) = _
    have e : valOf (env.set i (some (.ow o'))) (.sl i) = some (.ow o') := by have := bag_nn bg1; cases o' <;> first | exact absurd rfl (this _) | simp only [valOf, hx]
    rw [e]; rfl
  · exact List.nodup_cons.mpr ⟨fun z => (nomatch z), .nil⟩
  · subst e
    refine ⟨backOk_fz [.int (w : Int)], n, ?_⟩
    show Q r ((putL (env.set i (some (.ow o'))) ([.int (w : Int)].map Rv.fz) ([.int (w : Int)].map Val.fz)).set i (some (.ow o'')))
    rw [putL_fz, List.set_set]
    exact z
end
def S__law_small : FSpec := fun args Q _ => ∃ (o : O) (m w : Nat), args = [.ow o, .fz (.int (w : Int))] ∧ BagOk o (m : Int) ∧ w ≤ 8 ∧ m + 20 ≤ 100000 ∧ ∀ b o', b.length = w → (∀ x ∈ b, 0 ≤ x) → BagOk o' ((m + 9 : Nat) : Int) → Q (.fz (rowD b)) [.ow o', .fz (.int (w : Int))]
theorem mS__law_small : MonoF S__law_small := ⟨fun h _ ⟨o, m, w, a, b, c, d, q⟩ => ⟨o, m, w, a, b, c, d, fun t o' x y z => h _ _ (q t o' x y z)⟩⟩
def smB : SW := (wSeq (wSet 6 (wCall S__law_take (wCons (wVar 0) (wCons (wFrz (wBlt gMin2 (wCons (wVar 2) (wCons (wVar 3) wNil)))) wNil))))
  (wSeq (wApp 4 (wVar 6))
  (wSet 2 (wOp2 gDiv (wVar 2) (wOp2 gAdd (wVar 6) (wC (.int 1)))))))
abbrev E7 (o : O) (w room most : Int) (b : List Int) (k e : Option Val) : En := [some (.ow o), some (.fz (.int w)), some (.fz (.int room)), some (.fz (.int most)), some (.ow (.lst (b.map D.int))), k, e]
theorem lp_sm {K : Ks} {w most : Int} (h4 : 1 ≤ most) (h5 : most ≤ 400) {M : Nat} (hM : M ≤ 99990) (hn : ∀ o room b k e, BagOk o (M : Int) → b.length ≤ M → (∀ x ∈ b, 0 ≤ x) → K.nx (E7 o w room most b k e) ∨ b.length + 0 ≠ w) : ∀ (n j : Nat) (o : O) (room : Int) (b : List Int) (k e : Option Val), BagOk o ((M - n : Nat) : Int) → n ≤ 8 → n ≤ M → b.length ≤ 8 - n → w = (b.length + n : Nat) → 1 ≤ room → room ≤ 400 → (∀ x ∈ b, 0 ≤ x) → b.length ≤ M - n →
    loopW (.n 5) smB yesK K (rngD (j : Int) n) (E7 o w room most b k e)
  | 0, j, o, room, b, k, e, bg, _, _, hl, hw, _, _, h0, hb => ⟨True.intro, (hn o room b k e bg hb h0).resolve_right fun z => z (by omega)⟩
  | n + 1, j, o, room, b, k, e, bg, n8, nM, hl, hw, r1, r4, h0, hb => by
    refine ⟨True.intro, _, rfl, ?_⟩
    change smB _ (E7 o w room most b (some (.fz (.int (j : Int)))) e)
    unfold smB
    refine seq_k fun K1 hn1 _ _ _ _ => ?_
    unfold wSet
    obtain ⟨mn, hmn⟩ : ∃ mn : Int, mn = (if most < room then most else room) := ⟨_, rfl⟩
    have m1 : 1 ≤ mn ∧ mn ≤ room := by rw [hmn]; split <;> omega
    refine take_i 0 (ev_frz (ev_blt (r := .fz (.int mn)) (evl_cons (vx 2 rfl) (evl_cons (vx 3 rfl) evl_nil)) fun Q' q => ⟨room, most, rfl, by rw [← hmn]; exact q⟩).fz).fz rfl bg (by omega) m1.1 (by omega) fun x o1 x0 x1 bg1 => hn1 _ ?_
    change wSeq _ _ _ (E7 o1 w room most b (some (.fz (.int (j : Int)))) (some (.fz (.int x))))
    refine seq_k fun K2 hn2 _ _ _ _ => ?_
    have sz := sizeLine_eq
    unfold wApp
    refine ⟨⟨b.map D.int, rfl⟩, ?_⟩
    unfold wFz
    refine (ev_var (i := 6) (env := E7 o1 w room most b (some (.fz (.int (j : Int)))) (some (.fz (.int x)))) rfl).go ⟨b.map D.int, .int x, _, (fun z => nomatch z), rfl, rfl, by rw [List.length_map]; omega, hn2 _ ?_⟩
    have ea : b.map D.int ++ [D.int x] = (b ++ [x]).map D.int := by rw [List.map_append]; rfl
    rw [ea]
    change wSet _ _ _ (E7 o1 w room most (b ++ [x]) (some (.fz (.int (j : Int)))) (some (.fz (.int x))))
    have dv : EvR (E7 o1 w room most (b ++ [x]) (some (.fz (.int (j : Int)))) (some (.fz (.int x)))) (wOp2 gDiv (wVar 2) (wOp2 gAdd (wVar 6) (wC (.int 1)))) (.fz (.int (room.fdiv (x + 1)))) (E7 o1 w room most (b ++ [x]) (some (.fz (.int (j : Int)))) (some (.fz (.int x)))) :=
      ev_op (vx 2 rfl) (ev_addi (vx 6 rfl) cx).fz fun Q' q => by rw [gDiv_ii]; exact ⟨dv_ok (by omega) (by omega), q⟩
    have d1 : 1 ≤ room.fdiv (x + 1) := by
      rw [Int.fdiv_eq_ediv_of_nonneg _ (by omega)]
      exact Int.le_ediv_of_mul_le (by omega) (by omega)
    have d2 : room.fdiv (x + 1) ≤ room := by
      rw [Int.fdiv_eq_ediv_of_nonneg _ (by omega)]
      exact Int.ediv_le_self _ (by omega)
    refine run_set (i := 2) dv ?_
    exact lp_sm h4 h5 hM hn n (j + 1) o1 _ (b ++ [x]) _ _ (bg1.mono (by omega)) (by omega) (by omega) (by rw [List.length_append]; simp; omega) (by rw [List.length_append, hw]; simp; omega) d1 (by omega) (fun y hy => by
      rcases List.mem_append.mp hy with h | h
      · exact h0 y h
      · rw [List.mem_singleton.mp h]; exact x0) (by rw [List.length_append]; simp; omega)
theorem kp__law_small : Keeps S__law_small [0] 2 7 (w__law_small S__law_take) where
  fit := fun args Q E ⟨o, m, w, a, _⟩ => a ▸ fitO2
  run := fun args Q E ⟨o, m, w, a, bg, w8, hm, q⟩ => by
    subst a
    unfold w__law_small
    change wSeq _ _ _ [some (.ow o), some (.fz (.int (w : Int))), none, none, none, none, none]
    refine seq_k fun K1 hn1 _ _ _ _ => run_set (i := 2) ev_c (hn1 _ ?_)
    change wSeq _ _ _ [some (.ow o), some (.fz (.int (w : Int))), some (.fz (.int 400)), none, none, none, none]
    refine seq_k fun K2 hn2 _ _ _ _ => ?_
    unfold wSet wOp2
    refine (ev_lst (ds := [4, 12, 400].map D.int) (evl_cons cx (evl_cons cx (evl_cons cx evl_nil))) (by have := sizeLine_eq; simp; omega)).ow.go ?_
    unfold wFz
    refine take_i 0 cx rfl bg (by omega) (by decide) (by decide) fun y o2 y0 y1 bg2 => ?_
    obtain ⟨n, rfl⟩ := nat_ofI y0
    have hf : ∃ f : Int, 1 ≤ f ∧ f ≤ 400 ∧ ([4, 12, 400].map D.int)[n]? = some (.int f) := by
      have : n < 3 := by omega
      match n, this with
      | 0, _ => exact ⟨4, by decide, by decide, rfl⟩
      | 1, _ => exact ⟨12, by decide, by decide, rfl⟩
      | 2, _ => exact ⟨400, by decide, by decide, rfl⟩
    obtain ⟨f, f1, f4, hf⟩ := hf
    refine ⟨.lst ([4, 12, 400].map D.int), .int (n : Int), rfl, rfl, ?_⟩
    refine ix_l hf (hn2 _ ?_)
    change wSeq _ _ _ [some (.ow o2), some (.fz (.int (w : Int))), some (.fz (.int 400)), some (.fz (.int f)), none, none, none]
    refine seq_k fun K3 hn3 _ _ _ _ => run_setO (i := 4) (ev_lst evl_nil (Nat.zero_le _)) (hn3 _ ?_)
    change wSeq (wFor _ _ smB) _ _ (E7 o2 (w : Int) 400 f [] none none)
    refine seq_k fun K4 hn4 hr4 _ _ _ => ?_
    refine run_forR (n := w) (evl_cons (vx 1 rfl) evl_nil) (by omega) ?_
    refine lp_sm (M := m + 1 + w) f1 f4 (by omega) (fun o' room b k e bg' hb h0 => ?_) w 0 o2 400 [] none none (by rw [show m + 1 + w - w = m + 1 by omega]; exact bg2) w8 (by omega) (by simp) (by simp) (by decide) (by decide) (by simp) (by simp)
    by_cases hw : b.length = w
    · refine .inl (hn4 _ ?_)
      refine run_ret (ev_bltS (i := 4) (o := .lst (b.map D.int)) (r := .fz (rowD b)) rfl fun Q' q => q) ?_
      exact ⟨_, rfl, q b o' hw h0 (bg'.mono (by omega))⟩
    · exact .inr (by omega)
def S__law_great : FSpec := fun args Q _ => ∃ (o : O) (m w : Nat), args = [.ow o, .fz (.int (w : Int))] ∧ BagOk o (m : Int) ∧ w ≤ 8 ∧ m + 20 ≤ 100000 ∧ ∀ b o', b.length = w → (∀ x ∈ b, 0 ≤ x) → BagOk o' ((m + 16 : Nat) : Int) → Q (.fz (rowD b)) [.ow o', .fz (.int (w : Int))]
theorem mS__law_great : MonoF S__law_great := ⟨fun h _ ⟨o, m, w, a, b, c, d, q⟩ => ⟨o, m, w, a, b, c, d, fun t o' x y z => h _ _ (q t o' x y z)⟩⟩
def grB : SW := (wIf (wB (wOp2 gEq (wCall S__law_take (wCons (wVar 0) (wCons (wC (.int 3)) wNil))) (wC (.int 0))))
  (wApp 2 (wCall S__law_take (wCons (wVar 0) (wCons (wFrz (wOp2 gPow (wC (.int 10)) (wC (.int 30)))) wNil))))
  (wApp 2 (wCall S__law_take (wCons (wVar 0) (wCons (wC (.int 4)) wNil)))))
abbrev E4 (o : O) (w : Int) (b : List Int) (k : Option Val) : En := [some (.ow o), some (.fz (.int w)), some (.ow (.lst (b.map D.int))), k]
theorem app_k2 {K : Ks} {o : O} {w n : Int} {wn : EW} {b : List Int} {k : Option Val} {m : Nat} (hw : Ev (E4 o w b k) wn (.int n) (E4 o w b k)) (bg : BagOk o (m : Int)) (hm : m + 1 ≤ 100000) (h1 : 1 ≤ n) (h2 : n < 10 ^ 40) (hl : b.length ≤ 8) (q : ∀ x o', 0 ≤ x → BagOk o' ((m + 1 : Nat) : Int) → K.nx (E4 o' w (b ++ [x]) k)) : wApp 2 (wCall S__law_take (wCons (wVar 0) (wCons wn wNil))) K (E4 o w b k) := by
  have sz := sizeLine_eq
  unfold wApp
  refine ⟨⟨b.map D.int, rfl⟩, ?_⟩
  unfold wFz
  refine take_i 0 hw rfl bg hm h1 h2 fun x o' x0 x1 b1 => ⟨b.map D.int, .int x, _, (fun z => nomatch z), rfl, rfl, by rw [List.length_map]; omega, ?_⟩
  have := q x o' x0 b1
  rw [show E4 o' w (b ++ [x]) k = [some (.ow o'), some (.fz (.int w)), some (.ow (.lst (b.map D.int ++ [D.int x]))), k] by unfold E4; rw [List.map_append]; rfl] at this
  exact this
theorem lp_gr {K : Ks} {w : Int} {M : Nat} (hM : M ≤ 100000) (hn : ∀ o b k, BagOk o (M : Int) → (b.length : Int) = w → (∀ x ∈ b, 0 ≤ x) → K.nx (E4 o w b k)) : ∀ (n j : Nat) (o : O) (b : List Int) (k : Option Val), BagOk o ((M - 2 * n : Nat) : Int) → 2 * n ≤ M → b.length + n ≤ 8 → w = (b.length + n : Nat) → (∀ x ∈ b, 0 ≤ x) →
    loopW (.n 3) grB yesK K (rngD (j : Int) n) (E4 o w b k)
  | 0, j, o, b, k, bg, _, _, hw, h0 => ⟨True.intro, hn o b k bg (by omega) h0⟩
  | n + 1, j, o, b, k, bg, nM, hl, hw, h0 => by
    refine ⟨True.intro, _, rfl, ?_⟩
    change grB _ (E4 o w b (some (.fz (.int (j : Int)))))
    unfold grB wIf wB wOp2 wFz
    refine take_i 0 cx rfl bg (by omega) (by decide) (by decide) fun y o1 y0 y1 bg1 => ?_
    refine ⟨.int y, .int 0, rfl, rfl, rfl, rfl, ?_⟩
    rw [eqv_ii]
    refine ⟨_, rfl, ?_⟩
    have nxt : ∀ (x : Int) (o2 : O), 0 ≤ x → BagOk o2 ((M - 2 * (n + 1) + 1 + 1 : Nat) : Int) → loopW (.n 3) grB yesK K (rngD ((j : Int) + 1) n) (E4 o2 w (b ++ [x]) (some (.fz (.int (j : Int))))) := fun x o2 x0 bg2 =>
      lp_gr hM hn n (j + 1) o2 (b ++ [x]) _ (bg2.mono (by omega)) (by omega) (by rw [List.length_append]; simp; omega) (by rw [List.length_append, hw]; simp; omega) fun y hy => by
        rcases List.mem_append.mp hy with h | h
        · exact h0 y h
        · rw [List.mem_singleton.mp h]; exact x0
    by_cases hy : y = 0
    · rw [beq_iff_eq.mpr hy]
      dsimp only
      rw [if_pos rfl]
      exact app_k2 (ev_frz (ev_op (r := .fz (.int (10 ^ 30))) cx cx fun Q' q => ⟨10, 30, rfl, rfl, ⟨by decide, by decide, by decide⟩, q⟩).fz).fz bg1 (by omega) (by decide) (by decide) (by omega) nxt
    · rw [beq_eq_false_iff_ne.mpr hy]
      dsimp only
      rw [if_neg Bool.false_ne_true]
      exact app_k2 cx bg1 (by omega) (by decide) (by decide) (by omega) nxt
theorem kp__law_great : Keeps S__law_great [0] 2 4 (w__law_great S__law_take) where
  fit := fun args Q E ⟨o, m, w, a, _⟩ => a ▸ fitO2
  run := fun args Q E ⟨o, m, w, a, bg, w8, hm, q⟩ => by
    subst a
    unfold w__law_great
    change wSeq _ _ _ [some (.ow o), some (.fz (.int (w : Int))), none, none]
    refine seq_k fun K1 hn1 _ _ _ _ => run_setO (i := 2) (ev_lst evl_nil (Nat.zero_le _)) (hn1 _ ?_)
    change wSeq (wFor _ _ grB) _ _ (E4 o (w : Int) [] none)
    refine seq_k fun K2 hn2 hr2 _ _ _ => ?_
    refine run_forR (n := w) (evl_cons (vx 1 rfl) evl_nil) (by omega) ?_
    refine lp_gr (M := m + 2 * w) (by omega) (fun o' b k bg' hb h0 => hn2 _ ?_) w 0 o [] none (by rw [show m + 2 * w - 2 * w = m by omega]; exact bg) (by omega) (by simp; omega) (by simp) (by simp)
    refine run_ret (ev_bltS (i := 2) (o := .lst (b.map D.int)) (r := .fz (rowD b)) rfl fun Q' q => q) ?_
    exact ⟨_, rfl, q b o' (by omega) h0 (bg'.mono (by omega))⟩
theorem ev_yl {env : En} {a c : EW} {b : List Int} {m : Int} (ha : Ev env a (rowD b) env) (hc : Ev env c (.int m) env) (w1 : 1 ≤ b.length) (w8 : b.length ≤ 8) (h0 : ∀ x ∈ b, 0 ≤ x) : EvR env (wCall S__law_yielded (wCons a (wCons c wNil))) (.fz (.bl true)) env :=
  ev_call (S := S__law_yielded) (ds := [rowD b, .int m]) (evl_cons ha (evl_cons hc evl_nil)) (fun q => ⟨b, m, rfl, w1, w8, h0, q⟩) fun i z => by cases z
abbrev S_law : FSpec := SLaw 63
theorem kp_law : Keeps S_law [] 1 3 (w_law S__law_bag S__law_take S__law_small S__law_yielded S__law_great) where
  fit := fun args Q E ⟨_, a, _⟩ => a ▸ fit1
  run := fun args Q E ⟨ns, a, hl, hz, q⟩ => by
    subst a
    unfold w_law
    obtain ⟨N, hN⟩ : ∃ N, D.scr ns = N := ⟨_, rfl⟩
    change wSeq _ _ _ [some (.fz (.scr ns)), none, none]
    refine seq_k fun K1 hn1 _ _ _ _ => ?_
    unfold wSet
    refine call_both (ds := [.scr ns]) mS__law_bag (evl_cons (fx 0 rfl) evl_nil) ⟨ns, rfl, hz, hl, fun o bg0 => ⟨rfl, (fun _ z => nomatch z), hn1 _ ?_⟩⟩
    have q : ∀ as, backOk [.fz N] as = true → Q (.fz (.bl true)) as := by rw [← hN]; exact q
    have fin : ∀ e : En, e[0]? = some (some (.fz N)) → (KsFn [] [Val.fz (D.scr ns)] Q E).rt (.fz (.bl true)) e := fun e _ => ⟨_, rfl, q _ (by rw [hN]; rfl)⟩
    have bg : BagOk o ((0 : Nat) : Int) := bg0
    change wSeq _ _ _ [some (.fz (.scr ns)), some (.ow o), none]
    -- the small row
    refine seq_k fun K2 hn2 _ _ _ _ => ?_
    unfold wSet
    refine call_w mS__law_small (i := 1) (by simp) rfl bg (by decide) fun w o1 w1 w8 bg1 => ⟨o1, 1, w, rfl, bg1, w8, by decide, fun b o2 bw b0 bg2 => ⟨o2, rfl, (fun _ z => nomatch z), hn2 _ ?_⟩⟩
    change wSeq _ _ _ [some (.fz (.scr ns)), some (.ow o2), some (.fz (rowD b))]
    refine sk_f (evt_not (evt_trub (ev_yl (fx 2 rfl) cx (by omega) (by omega) b0))) ?_
    -- the great row
    refine seq_k fun K3 hn3 _ _ _ _ => ?_
    obtain ⟨W, hW⟩ : ∃ W, W = wFrz (wCall S__law_great (wCons (wVar 1) (wCons (wFrz (wOp2 gAdd (wC (.int 1)) (wCall S__law_take (wCons (wVar 1) (wCons (wC (.int 8)) wNil))))) wNil))) := ⟨_, rfl⟩
    have go : ∀ (Q' : Rv → En → Prop) (E' : XW), (∀ b' o4, 1 ≤ b'.length → b'.length ≤ 8 → (∀ x ∈ b', 0 ≤ x) → BagOk o4 ((27 : Nat) : Int) → Q' (.fz (rowD b')) [some (.fz (.scr ns)), some (.ow o4), some (.fz (rowD b))]) → W [some (.fz (.scr ns)), some (.ow o2), some (.fz (rowD b))] Q' E' := fun Q' E' k => by
      rw [hW]
      unfold wFrz wFz
      exact call_w mS__law_great (i := 1) (by simp) rfl bg2 (by decide) fun w o3 w1 w8 bg3 => ⟨o3, 11, w, rfl, bg3, w8, by decide, fun b' o4 bw' b0' bg4 => ⟨o4, rfl, (fun _ z => nomatch z), rowD b', _, rfl, k b' o4 (by omega) (by omega) b0' bg4⟩⟩
    rw [← hW]
    unfold wIf wtNot wTru wFz wCall wCons wFz
    refine go _ _ fun b' o4 b1' b8' b0' bg4 => ?_
    refine ⟨[.fz (rowD b'), .fz (.int 9)], rfl, .nil, b', 9, rfl, b1', b8', b0', backOk_fz [rowD b', .int 9], (fun _ z => nomatch z), ?_⟩
    refine ⟨.bl true, true, rfl, rfl, ?_⟩
    dsimp only
    rw [if_neg (by decide)]
    refine hn3 _ ?_
    change wRet _ _ _ [some (.fz (.scr ns)), some (.ow o4), some (.fz (rowD b))]
    unfold wRet wOr wOp2 wFz
    refine take_i 1 cx rfl bg4 (by decide) (by decide) (by decide) fun y o5 y0 y1 bg5 => ?_
    refine ⟨.int y, .int 1, rfl, rfl, rfl, rfl, ?_⟩
    rw [eqv_ii]
    refine ⟨_, rfl, ?_⟩
    by_cases hy : y = 1
    · rw [beq_iff_eq.mpr hy]
      rw [if_neg (by decide)]
      exact (ev_yl (b := [11, 12, 12]) (m := 3000) (ev_frz (ev_tup (evl_cons cx (evl_cons cx (evl_cons cx evl_nil))) (by have := sizeLine_eq; simp; omega)).fz).fz cx (by decide) (by decide) (by decide)).go (fin _ (by rw [hN]; rfl))
    · rw [beq_eq_false_iff_ne.mpr hy]
      rw [if_pos (by decide)]
      exact fin _ (by rw [hN]; rfl)
end LV
set_option maxHeartbeats 2000000
namespace LV
open PySem PySem.Spec L2
def topS (i : Nat) : Stmt := PySem.Challenge.pw_lampthrong_k02_rows_under.main.body.getD i (.Pass ⟨0, 0, 0, 0⟩)
abbrev s__law_bag : Stmt := topS 3
theorem sc__law_bag : FnScope ["_law_script", "_law_cells", "_law_cell", "_law_great_here", "_law_seed"] ["_law_script"] (defScope s__law_bag) := ⟨rfl, rfl, rfl, by decide +kernel, rfl, by decide +kernel, by decide +kernel⟩
abbrev s__law_take : Stmt := topS 4
theorem sc__law_take : FnScope ["_law_bag_here", "_law_many", "_law_digit", "_law_cells", "_law_cell", "_law_first", "_law_second", "_law_third"] ["_law_bag_here", "_law_many"] (defScope s__law_take) := ⟨rfl, rfl, rfl, by decide +kernel, rfl, by decide +kernel, by decide +kernel⟩
abbrev s__law_is_integer : Stmt := topS 5
theorem sc__law_is_integer : FnScope ["_law_value"] ["_law_value"] (defScope s__law_is_integer) := ⟨rfl, rfl, rfl, by decide +kernel, rfl, by decide +kernel, by decide +kernel⟩
abbrev s__law_next : Stmt := topS 7
theorem sc__law_next : FnScope ["_law_row", "_law_last", "_law_k"] ["_law_row", "_law_last"] (defScope s__law_next) := ⟨rfl, rfl, rfl, by decide +kernel, rfl, by decide +kernel, by decide +kernel⟩
abbrev s__law_is_row : Stmt := topS 6
theorem sc__law_is_row : FnScope ["_law_value", "_law_width", "_law_entry"] ["_law_value", "_law_width"] (defScope s__law_is_row) := ⟨rfl, rfl, rfl, by decide +kernel, rfl, by decide +kernel, by decide +kernel⟩
abbrev s__law_small : Stmt := topS 9
theorem sc__law_small : FnScope ["_law_bag_here", "_law_width", "_law_room", "_law_most", "_law_row", "_law_k", "_law_entry"] ["_law_bag_here", "_law_width"] (defScope s__law_small) := ⟨rfl, rfl, rfl, by decide +kernel, rfl, by decide +kernel, by decide +kernel⟩
abbrev s__law_great : Stmt := topS 10
theorem sc__law_great : FnScope ["_law_bag_here", "_law_width", "_law_row", "_law_k"] ["_law_bag_here", "_law_width"] (defScope s__law_great) := ⟨rfl, rfl, rfl, by decide +kernel, rfl, by decide +kernel, by decide +kernel⟩
abbrev s_rows_under : Stmt := topS 1
theorem sc_rows_under : GScope ["row", "entry", "rest"] ["row"] (defScope s_rows_under) := ⟨rfl, rfl, rfl, by decide +kernel, rfl, by decide +kernel, by decide +kernel⟩
abbrev s__law_yielded : Stmt := topS 8
theorem sc__law_yielded : FnScope ["_law_last", "_law_most", "_law_due", "_law_count", "_law_row"] ["_law_last", "_law_most"] (defScope s__law_yielded) := ⟨rfl, rfl, rfl, by decide +kernel, rfl, by decide +kernel, by decide +kernel⟩
abbrev s_law : Stmt := topS 11
theorem sc_law : FnScope ["_law_script", "_law_bag_here", "_law_row"] ["_law_script"] (defScope s_law) := ⟨rfl, rfl, rfl, by decide +kernel, rfl, by decide +kernel, by decide +kernel⟩
/-- what the module holds when the law is called -/
structure Tp (P : Program) (w : World) (K : PySem.W.Frag) (mg : Str → Option Value) (base : Heap) : Prop where
  d__law_bag : ∃ f fd, DefAt K mg "_law_bag" s__law_bag ["_law_script"] f fd
  d__law_take : ∃ f fd, DefAt K mg "_law_take" s__law_take ["_law_bag_here", "_law_many"] f fd
  d__law_is_integer : ∃ f fd, DefAt K mg "_law_is_integer" s__law_is_integer ["_law_value"] f fd
  d__law_next : ∃ f fd, DefAt K mg "_law_next" s__law_next ["_law_row", "_law_last"] f fd
  d__law_is_row : ∃ f fd, DefAt K mg "_law_is_row" s__law_is_row ["_law_value", "_law_width"] f fd
  d__law_small : ∃ f fd, DefAt K mg "_law_small" s__law_small ["_law_bag_here", "_law_width"] f fd
  d__law_great : ∃ f fd, DefAt K mg "_law_great" s__law_great ["_law_bag_here", "_law_width"] f fd
  d_rows_under : ∃ f fd, DefAt K mg "rows_under" s_rows_under ["row"] f fd
  d__law_yielded : ∃ f fd, DefAt K mg "_law_yielded" s__law_yielded ["_law_last", "_law_most"] f fd
  d_law : ∃ f fd, DefAt K mg "law" s_law ["_law_script"] f fd
  z_abs : mg "abs" = none
  z_all : mg "all" = none
  z_bool : mg "bool" = none
  z_int : mg "int" = none
  z_isinstance : mg "isinstance" = none
  z_len : mg "len" = none
  z_min : mg "min" = none
  z_range : mg "range" = none
  z_tuple : mg "tuple" = none
theorem der__law_bag {P : Program} {w : World} {K : PySem.W.Frag} {mg : Str → Option Value} {base : Heap} (T : Tp P w K mg base) {f : Addr} (cdv : Value) (A : Around) (outer : List Env) (s : Shared) (H : Hp) (E : XK) (hr : RoomG 0 (A.deeper (PyProof.Rows.envOfC "_law_bag" (defScope s__law_bag) s.heap.objs.size f cdv)))
    (σ₀ : L2.St) (h₀ : Hp) (xc : Addr → Value → Option Addr → Prop) (hN : Hp) : SSs (cxOf (L2.CX P w) P w K mg base ["_law_script", "_law_cells", "_law_cell", "_law_great_here", "_law_seed"] "_law_bag" (defScope s__law_bag) f cdv A outer s H E) ⟨[], σ₀, h₀, xc, hN⟩ (fun cls d _ H => E cls d H) (defBody s__law_bag) (w__law_bag) :=
  (sss_cons (ss_setLcV (own := [("_law_cell", 2)]) (i := 1) (show 1 ∉ ([] : List Nat) from by decide) rfl sc__law_bag.nd rfl rfl (show BlkOk ["_law_script", "_law_cells", "_law_cell", "_law_great_here", "_law_seed"] (defScope s__law_bag) _ [("_law_cell", 2)] from ⟨rfl, by decide +kernel, by decide +kernel, by decide +kernel, by decide +kernel⟩) (si_it (se_sl (se_var (i := 0)) so_none (so_some se_int))) (show ∀ i ∈ ([2] : List Nat), i ∉ ([] : List Nat) from by decide) (show ∀ i ∈ ([2] : List Nat), i ∈ ([2] : List Nat) from by decide) (fun _ _ _ _ _ => (sg_name (i := 2) sc__law_bag.nd rfl (by first | exact .inl rfl | exact .inr rfl))) (fun _ _ _ _ _ => sts_nil) (fun _ _ _ _ _ => (se_callTy vl_int (by rfl) T.z_int (by with_unfolding_all rfl) (sa_cons (se_var (i := 2)) sa_nil))))
  (sss_cons (ss_set (i := 3) (show 3 ∉ ([] : List Nat) from by decide) sc__law_bag.nd rfl (by first | exact .inl rfl | exact .inr rfl) se_int)
  (sss_cons (ss_set (i := 4) (show 4 ∉ ([] : List Nat) from by decide) sc__law_bag.nd rfl (by first | exact .inl rfl | exact .inr rfl) se_int)
  (sss_cons (ss_for poF rfl (si_it (se_var (i := 1))) (sg_name (i := 2) sc__law_bag.nd rfl (by first | exact .inl rfl | exact .inr rfl)) (show ∀ i ∈ ([2] : List Nat), i ∉ ([] : List Nat) from by decide)
  (sss_cons (ss_set (i := 4) (show 4 ∉ ([] : List Nat) from by decide) sc__law_bag.nd rfl (by first | exact .inl rfl | exact .inr rfl) (se_op vr_mod (se_callTy vl_int (by rfl) T.z_int (by with_unfolding_all rfl) (sa_cons (se_op vr_add (se_op vr_add (se_op vr_mulT (se_var (i := 4)) se_int) (se_op vr_mod (se_callTy vl_int (by rfl) T.z_int (by with_unfolding_all rfl) (sa_cons (se_var (i := 2)) sa_nil)) se_int)) se_int) sa_nil)) se_int))
  (sss_one (ss_if (SPW.st (spw_and (st_cmp (vr_eq hr.u64) (se_var (i := 3)) se_int (by with_unfolding_all rfl)) (spw_and1 (st_cmp (vr_ge hr.u0) (se_callB vl_abs (by rfl) T.z_abs (by with_unfolding_all rfl) (sa_cons (se_var (i := 2)) sa_nil)) (se_op vr_pow se_int se_int) (by with_unfolding_all rfl)))))
  (sss_one (ss_set (i := 3) (show 3 ∉ ([] : List Nat) from by decide) sc__law_bag.nd rfl (by first | exact .inl rfl | exact .inr rfl) (se_callB vl_abs (by rfl) T.z_abs (by with_unfolding_all rfl) (sa_cons (se_var (i := 2)) sa_nil))))
  sss_nil))))
  (sss_one (ss_ret (se_lst (sa_cons (se_var (i := 3)) (sa_cons (se_var (i := 4)) (sa_cons se_int (sa_cons (se_var (i := 1)) sa_nil)))))))))))
theorem der__law_take {P : Program} {w : World} {K : PySem.W.Frag} {mg : Str → Option Value} {base : Heap} (T : Tp P w K mg base) {f : Addr} (cdv : Value) (A : Around) (outer : List Env) (s : Shared) (H : Hp) (E : XK) (hr : RoomG 0 (A.deeper (PyProof.Rows.envOfC "_law_take" (defScope s__law_take) s.heap.objs.size f cdv)))
    (σ₀ : L2.St) (h₀ : Hp) (xc : Addr → Value → Option Addr → Prop) (hN : Hp) : SSs (cxOf (L2.CX P w) P w K mg base ["_law_bag_here", "_law_many", "_law_digit", "_law_cells", "_law_cell", "_law_first", "_law_second", "_law_third"] "_law_take" (defScope s__law_take) f cdv A outer s H E) ⟨[0], σ₀, h₀, xc, hN⟩ (fun cls d _ H => E cls d H) (defBody s__law_take) (w__law_take) :=
  (sss_cons (ss_setIx (i := 0) (se_op vr_add (se_ix vi_ix (se_var (i := 0)) se_int) se_int) se_int)
  (sss_cons (ss_if (st_cmp (vr_gt hr.u0) (se_ix vi_ix (se_var (i := 0)) se_int) se_int (by with_unfolding_all rfl))
  (sss_cons (ss_set (i := 2) (show 2 ∉ ([0] : List Nat) from by decide) sc__law_take.nd rfl (by first | exact .inl rfl | exact .inr rfl) (se_op vr_mod (se_callTy vl_int (by rfl) T.z_int (by with_unfolding_all rfl) (sa_cons (se_ix vi_ix (se_var (i := 0)) se_int) sa_nil)) (se_var (i := 1))))
  (sss_cons (ss_setIx (i := 0) (se_op vr_div (se_ix vi_ix (se_var (i := 0)) se_int) (se_var (i := 1))) se_int)
  (sss_one (ss_ret (se_var (i := 2))))))
  sss_nil)
  (sss_cons (ss_set (i := 3) (show 3 ∉ ([0] : List Nat) from by decide) sc__law_take.nd rfl (by first | exact .inl rfl | exact .inr rfl) (se_ix vi_ix (se_var (i := 0)) se_int))
  (sss_cons (ss_if (st_not (st_tru (se_var (i := 3))))
  (sss_one (ss_ret (se_op vr_mod (se_callTy vl_int (by rfl) T.z_int (by with_unfolding_all rfl) (sa_cons (se_ix vi_ix (se_var (i := 0)) se_int) sa_nil)) (se_var (i := 1)))))
  sss_nil)
  (sss_cons (ss_set (i := 4) (show 4 ∉ ([0] : List Nat) from by decide) sc__law_take.nd rfl (by first | exact .inl rfl | exact .inr rfl) (se_ix vi_ix (se_var (i := 3)) (se_op vr_mod (se_callTy vl_int (by rfl) T.z_int (by with_unfolding_all rfl) (sa_cons (se_ix vi_ix (se_var (i := 0)) se_int) sa_nil)) (se_callB vl_len (by rfl) T.z_len (by with_unfolding_all rfl) (sa_cons (se_var (i := 3)) sa_nil)))))
  (sss_cons (ss_set (i := 5) (show 5 ∉ ([0] : List Nat) from by decide) sc__law_take.nd rfl (by first | exact .inl rfl | exact .inr rfl) (se_op vr_mod (se_callTy vl_int (by rfl) T.z_int (by with_unfolding_all rfl) (sa_cons (se_op vr_add (se_op vr_add (se_op vr_mulT (se_var (i := 4)) se_int) (se_op vr_mulT (se_ix vi_ix (se_var (i := 0)) se_int) se_int)) (se_ix vi_ix (se_var (i := 0)) se_int)) sa_nil)) se_int))
  (sss_cons (ss_set (i := 6) (show 6 ∉ ([0] : List Nat) from by decide) sc__law_take.nd rfl (by first | exact .inl rfl | exact .inr rfl) (se_op vr_mod (se_callTy vl_int (by rfl) T.z_int (by with_unfolding_all rfl) (sa_cons (se_op vr_add (se_op vr_mulT (se_var (i := 5)) (se_var (i := 5))) (se_ix vi_ix (se_var (i := 0)) se_int)) sa_nil)) se_int))
  (sss_cons (ss_set (i := 7) (show 7 ∉ ([0] : List Nat) from by decide) sc__law_take.nd rfl (by first | exact .inl rfl | exact .inr rfl) (se_op vr_mod (se_callTy vl_int (by rfl) T.z_int (by with_unfolding_all rfl) (sa_cons (se_op vr_add (se_op vr_mulT (se_var (i := 6)) (se_var (i := 6))) (se_ix vi_ix (se_var (i := 0)) se_int)) sa_nil)) se_int))
  (sss_one (ss_ret (se_op vr_mod (se_callTy vl_int (by rfl) T.z_int (by with_unfolding_all rfl) (sa_cons (se_op vr_div (se_var (i := 7)) se_int) sa_nil)) (se_var (i := 1)))))))))))))
theorem der__law_is_integer {P : Program} {w : World} {K : PySem.W.Frag} {mg : Str → Option Value} {base : Heap} (T : Tp P w K mg base) {f : Addr} (cdv : Value) (A : Around) (outer : List Env) (s : Shared) (H : Hp) (E : XK) (hr : RoomG 0 (A.deeper (PyProof.Rows.envOfC "_law_is_integer" (defScope s__law_is_integer) s.heap.objs.size f cdv)))
    (σ₀ : L2.St) (h₀ : Hp) (xc : Addr → Value → Option Addr → Prop) (hN : Hp) : SSs (cxOf (L2.CX P w) P w K mg base ["_law_value"] "_law_is_integer" (defScope s__law_is_integer) f cdv A outer s H E) ⟨[], σ₀, h₀, xc, hN⟩ (fun cls d _ H => E cls d H) (defBody s__law_is_integer) (w__law_is_integer) :=
  (sss_one (ss_ret (se_and (se_isi (T := .int) (se_var (i := 0)) (by rfl) T.z_isinstance (by rfl) T.z_int (by with_unfolding_all rfl)) (se_one (se_not (se_isi (T := .bl) (se_var (i := 0)) (by rfl) T.z_isinstance (by rfl) T.z_bool (by with_unfolding_all rfl)))))))
theorem der__law_next {P : Program} {w : World} {K : PySem.W.Frag} {mg : Str → Option Value} {base : Heap} (T : Tp P w K mg base) {f : Addr} (cdv : Value) (A : Around) (outer : List Env) (s : Shared) (H : Hp) (E : XK) (hr : RoomG 0 (A.deeper (PyProof.Rows.envOfC "_law_next" (defScope s__law_next) s.heap.objs.size f cdv)))
    (σ₀ : L2.St) (h₀ : Hp) (xc : Addr → Value → Option Addr → Prop) (hN : Hp) : SSs (cxOf (L2.CX P w) P w K mg base ["_law_row", "_law_last", "_law_k"] "_law_next" (defScope s__law_next) f cdv A outer s H E) ⟨[], σ₀, h₀, xc, hN⟩ (fun cls d _ H => E cls d H) (defBody s__law_next) (w__law_next) :=
  (sss_cons (ss_for poF rfl (si_rng3 (by rfl) T.z_range (sa_cons (se_op vr_sub (se_callB vl_len (by rfl) T.z_len (by with_unfolding_all rfl) (sa_cons (se_var (i := 0)) sa_nil)) se_int) (sa_cons (se_neg se_int) (sa_cons (se_neg se_int) sa_nil)))) (sg_name (i := 2) sc__law_next.nd rfl (by first | exact .inl rfl | exact .inr rfl)) (show ∀ i ∈ ([2] : List Nat), i ∉ ([] : List Nat) from by decide)
  (sss_one (ss_if (st_cmp (vr_lt hr.u0) (se_ix vi_ix (se_var (i := 0)) (se_var (i := 2))) (se_ix vi_ix (se_var (i := 1)) (se_var (i := 2))) (by with_unfolding_all rfl))
  (sss_one (ss_ret (se_op vr_add (se_op vr_add (se_sl (se_var (i := 0)) so_none (so_some (se_var (i := 2)))) (se_tup (sa_cons (se_op vr_add (se_ix vi_ix (se_var (i := 0)) (se_var (i := 2))) se_int) sa_nil))) (se_op vr_mulZ (se_tup (sa_cons se_int sa_nil)) (se_op vr_sub (se_op vr_sub (se_callB vl_len (by rfl) T.z_len (by with_unfolding_all rfl) (sa_cons (se_var (i := 0)) sa_nil)) (se_var (i := 2))) se_int)))))
  sss_nil)))
  (sss_one (ss_ret se_non)))
theorem der__law_is_row {P : Program} {w : World} {K : PySem.W.Frag} {mg : Str → Option Value} {base : Heap} (T : Tp P w K mg base) {S__law_is_integer : FSpec} (mS__law_is_integer : MonoF S__law_is_integer) (O__law_is_integer : Ok P w K mg base "_law_is_integer" ["_law_value"] 1 S__law_is_integer) {f : Addr} (cdv : Value) (A : Around) (outer : List Env) (s : Shared) (H : Hp) (E : XK) (hr : RoomG 1 (A.deeper (PyProof.Rows.envOfC "_law_is_row" (defScope s__law_is_row) s.heap.objs.size f cdv)))
    (σ₀ : L2.St) (h₀ : Hp) (xc : Addr → Value → Option Addr → Prop) (hN : Hp) : SSs (cxOf (L2.CX P w) P w K mg base ["_law_value", "_law_width", "_law_entry"] "_law_is_row" (defScope s__law_is_row) f cdv A outer s H E) ⟨[], σ₀, h₀, xc, hN⟩ (fun cls d _ H => E cls d H) (defBody s__law_is_row) (w__law_is_row S__law_is_integer) :=
  (sss_cons (ss_if (SPW.st (spw_or (st_not (st_tru (se_isi (T := .tup) (se_var (i := 0)) (by rfl) T.z_isinstance (by rfl) T.z_tuple (by with_unfolding_all rfl)))) (spw_or1 (st_cmp (vr_ne hr.u64) (se_callB vl_len (by rfl) T.z_len (by with_unfolding_all rfl) (sa_cons (se_var (i := 0)) sa_nil)) (se_var (i := 1)) (by with_unfolding_all rfl)))))
  (sss_one (ss_ret se_bl))
  sss_nil)
  (sss_one (ss_ret (se_callB (vl_all rfl) (by rfl) T.z_all (by with_unfolding_all rfl) (sa_cons (se_lcV (own := [("_law_entry", 2)]) rfl sc__law_is_row.nd (show BlkOk ["_law_value", "_law_width", "_law_entry"] (defScope s__law_is_row) _ [("_law_entry", 2)] from ⟨rfl, by decide +kernel, by decide +kernel, by decide +kernel, by decide +kernel⟩) (si_it (se_var (i := 0))) (show ∀ i ∈ ([2] : List Nat), i ∉ ([] : List Nat) from by decide) (show ∀ i ∈ ([2] : List Nat), i ∈ ([2] : List Nat) from by decide) (fun _ _ _ _ _ => (sg_name (i := 2) sc__law_is_row.nd rfl (by first | exact .inl rfl | exact .inr rfl))) (fun _ _ _ _ _ => sts_nil) (fun _ _ _ _ _ => (se_and (se_callO O__law_is_integer mS__law_is_integer tk0 hr (by rfl) (sa_cons (se_frz (se_var (i := 2))) sa_nil)) (se_one (se_cmp (vr_ge hr.u0) (se_var (i := 2)) se_int (by with_unfolding_all rfl)))))) sa_nil)))))
theorem der__law_small {P : Program} {w : World} {K : PySem.W.Frag} {mg : Str → Option Value} {base : Heap} (T : Tp P w K mg base) {S__law_take : FSpec} (mS__law_take : MonoF S__law_take) (O__law_take : Ok P w K mg base "_law_take" ["_law_bag_here", "_law_many"] 1 S__law_take) {f : Addr} (cdv : Value) (A : Around) (outer : List Env) (s : Shared) (H : Hp) (E : XK) (hr : RoomG 1 (A.deeper (PyProof.Rows.envOfC "_law_small" (defScope s__law_small) s.heap.objs.size f cdv)))
    (σ₀ : L2.St) (h₀ : Hp) (xc : Addr → Value → Option Addr → Prop) (hN : Hp) : SSs (cxOf (L2.CX P w) P w K mg base ["_law_bag_here", "_law_width", "_law_room", "_law_most", "_law_row", "_law_k", "_law_entry"] "_law_small" (defScope s__law_small) f cdv A outer s H E) ⟨[0], σ₀, h₀, xc, hN⟩ (fun cls d _ H => E cls d H) (defBody s__law_small) (w__law_small S__law_take) :=
  (sss_cons (ss_set (i := 2) (show 2 ∉ ([0] : List Nat) from by decide) sc__law_small.nd rfl (by first | exact .inl rfl | exact .inr rfl) se_int)
  (sss_cons (ss_set (i := 3) (show 3 ∉ ([0] : List Nat) from by decide) sc__law_small.nd rfl (by first | exact .inl rfl | exact .inr rfl) (se_ix vi_ix (se_lst (sa_cons se_int (sa_cons se_int (sa_cons se_int sa_nil)))) (se_callO O__law_take mS__law_take tkF hr (by rfl) (sa_cons (se_var (i := 0)) (sa_cons se_int sa_nil)))))
  (sss_cons (ss_set (i := 4) (show 4 ∉ ([0] : List Nat) from by decide) sc__law_small.nd rfl (by first | exact .inl rfl | exact .inr rfl) (se_lst sa_nil))
  (sss_cons (ss_for poF rfl (si_rng1 (by rfl) T.z_range (sa_cons (se_var (i := 1)) sa_nil)) (sg_name (i := 5) sc__law_small.nd rfl (by first | exact .inl rfl | exact .inr rfl)) (show ∀ i ∈ ([5] : List Nat), i ∉ ([0] : List Nat) from by decide)
  (sss_cons (ss_set (i := 6) (show 6 ∉ ([0] : List Nat) from by decide) sc__law_small.nd rfl (by first | exact .inl rfl | exact .inr rfl) (se_callO O__law_take mS__law_take tkF hr (by rfl) (sa_cons (se_var (i := 0)) (sa_cons (se_frz (se_callB (vl_min2 rfl) (by rfl) T.z_min (by with_unfolding_all rfl) (sa_cons (se_var (i := 2)) (sa_cons (se_var (i := 3)) sa_nil)))) sa_nil))))
  (sss_cons (ss_app (i := 4) (se_var (i := 6)))
  (sss_one (ss_set (i := 2) (show 2 ∉ ([0] : List Nat) from by decide) sc__law_small.nd rfl (by first | exact .inl rfl | exact .inr rfl) (se_op vr_div (se_var (i := 2)) (se_op vr_add (se_var (i := 6)) se_int)))))))
  (sss_one (ss_ret (se_callTy vl_tuple (by rfl) T.z_tuple (by with_unfolding_all rfl) (sa_cons (se_var (i := 4)) sa_nil))))))))
theorem der__law_great {P : Program} {w : World} {K : PySem.W.Frag} {mg : Str → Option Value} {base : Heap} (T : Tp P w K mg base) {S__law_take : FSpec} (mS__law_take : MonoF S__law_take) (O__law_take : Ok P w K mg base "_law_take" ["_law_bag_here", "_law_many"] 1 S__law_take) {f : Addr} (cdv : Value) (A : Around) (outer : List Env) (s : Shared) (H : Hp) (E : XK) (hr : RoomG 1 (A.deeper (PyProof.Rows.envOfC "_law_great" (defScope s__law_great) s.heap.objs.size f cdv)))
    (σ₀ : L2.St) (h₀ : Hp) (xc : Addr → Value → Option Addr → Prop) (hN : Hp) : SSs (cxOf (L2.CX P w) P w K mg base ["_law_bag_here", "_law_width", "_law_row", "_law_k"] "_law_great" (defScope s__law_great) f cdv A outer s H E) ⟨[0], σ₀, h₀, xc, hN⟩ (fun cls d _ H => E cls d H) (defBody s__law_great) (w__law_great S__law_take) :=
  (sss_cons (ss_set (i := 2) (show 2 ∉ ([0] : List Nat) from by decide) sc__law_great.nd rfl (by first | exact .inl rfl | exact .inr rfl) (se_lst sa_nil))
  (sss_cons (ss_for poF rfl (si_rng1 (by rfl) T.z_range (sa_cons (se_var (i := 1)) sa_nil)) (sg_name (i := 3) sc__law_great.nd rfl (by first | exact .inl rfl | exact .inr rfl)) (show ∀ i ∈ ([3] : List Nat), i ∉ ([0] : List Nat) from by decide)
  (sss_one (ss_if (st_cmp (vr_eq hr.u64) (se_callO O__law_take mS__law_take tkF hr (by rfl) (sa_cons (se_var (i := 0)) (sa_cons se_int sa_nil))) se_int (by with_unfolding_all rfl))
  (sss_one (ss_app (i := 2) (se_callO O__law_take mS__law_take tkF hr (by rfl) (sa_cons (se_var (i := 0)) (sa_cons (se_frz (se_op vr_pow se_int se_int)) sa_nil)))))
  (sss_one (ss_app (i := 2) (se_callO O__law_take mS__law_take tkF hr (by rfl) (sa_cons (se_var (i := 0)) (sa_cons se_int sa_nil))))))))
  (sss_one (ss_ret (se_callTy vl_tuple (by rfl) T.z_tuple (by with_unfolding_all rfl) (sa_cons (se_var (i := 2)) sa_nil))))))
theorem der_rows_under {P : Program} {w : World} {K : PySem.W.Frag} {mg : Str → Option Value} {base : Heap} (T : Tp P w K mg base) {kk k : Nat} {S_rows_under : GSpec}  (O_rows_under : OkG P w K mg base "rows_under" ["row"] kk S_rows_under) (hkk : kk ≤ k) {f : Addr} (cdv : Value) (AW : Around) (outer : List Env) (n0 gn : Nat) (y : Option Xn) (hr : ∀ env, RoomG k (AW.deeper env)) :
    GSts (· = []) ⟨⟨P, w, K, mg, base, AW, outer, n0, gn⟩, ["row", "entry", "rest"], "rows_under", defScope s_rows_under, f, cdv⟩ y (defBody s_rows_under) (w_rows_under S_rows_under) :=
  (gsts_cons (gst_if (fun s H E hs => have hr := hr (PyProof.Rows.envOfC "rows_under" (defScope s_rows_under) s.heap.objs.size f cdv); (st_cmp (vr_eq hr.u64) (se_callB vl_len (by rfl) T.z_len (by with_unfolding_all rfl) (sa_cons (se_var (i := 0)) sa_nil)) se_int (by with_unfolding_all rfl)))
  (gsts_cons (gst_for (fun s H E hs => have hr := hr (PyProof.Rows.envOfC "rows_under" (defScope s_rows_under) s.heap.objs.size f cdv); (si_rngB (by rfl) T.z_range (sa_cons (se_op vr_add (se_ix vi_ix (se_var (i := 0)) se_int) se_int) sa_nil))) (fun s H E hs => have hr := hr (PyProof.Rows.envOfC "rows_under" (defScope s_rows_under) s.heap.objs.size f cdv); (sg_name (i := 1) sc_rows_under.nd rfl (by first | exact .inl rfl | exact .inr rfl)))
  (gsts_cons (gst_yield (fun s H E hs => have hr := hr (PyProof.Rows.envOfC "rows_under" (defScope s_rows_under) s.heap.objs.size f cdv); (se_tup (sa_cons (se_var (i := 1)) sa_nil))))
  gsts_nil))
  gsts_nil)
  (gsts_cons (gst_for (fun s H E hs => have hr := hr (PyProof.Rows.envOfC "rows_under" (defScope s_rows_under) s.heap.objs.size f cdv); (si_rngB (by rfl) T.z_range (sa_cons (se_op vr_add (se_ix vi_ix (se_var (i := 0)) se_int) se_int) sa_nil))) (fun s H E hs => have hr := hr (PyProof.Rows.envOfC "rows_under" (defScope s_rows_under) s.heap.objs.size f cdv); (sg_name (i := 1) sc_rows_under.nd rfl (by first | exact .inl rfl | exact .inr rfl)))
  (gsts_cons (gst_forGO O_rows_under hr (fun _ _ _ _ => by rfl) (fun s H E hs => have hr := hr (PyProof.Rows.envOfC "rows_under" (defScope s_rows_under) s.heap.objs.size f cdv); (sa_cons (se_frz (se_sl (se_var (i := 0)) (so_some se_int) so_none)) sa_nil)) (fun s H E hs => have hr := hr (PyProof.Rows.envOfC "rows_under" (defScope s_rows_under) s.heap.objs.size f cdv); (sg_name (i := 2) sc_rows_under.nd rfl (by first | exact .inl rfl | exact .inr rfl)))
  (gsts_cons (gst_yield (fun s H E hs => have hr := hr (PyProof.Rows.envOfC "rows_under" (defScope s_rows_under) s.heap.objs.size f cdv); (se_op vr_add (se_tup (sa_cons (se_var (i := 1)) sa_nil)) (se_var (i := 2)))))
  gsts_nil) hkk)
  gsts_nil))
  gsts_nil))
  gsts_nil)
theorem der__law_yielded {P : Program} {w : World} {K : PySem.W.Frag} {mg : Str → Option Value} {base : Heap} (T : Tp P w K mg base) {S_rows_under : GSpec} {S__law_is_row : FSpec} {S__law_next : FSpec} (nS_rows_under : GNo K mg S_rows_under) (mS__law_is_row : MonoF S__law_is_row) (mS__law_next : MonoF S__law_next) (O_rows_under : OkG P w K mg base "rows_under" ["row"] 8 S_rows_under) (O__law_is_row : Ok P w K mg base "_law_is_row" ["_law_value", "_law_width"] 2 S__law_is_row) (O__law_next : Ok P w K mg base "_law_next" ["_law_row", "_law_last"] 1 S__law_next) {f : Addr} (cdv : Value) (A : Around) (outer : List Env) (s : Shared) (H : Hp) (E : XK) (hr : RoomG 8 (A.deeper (PyProof.Rows.envOfC "_law_yielded" (defScope s__law_yielded) s.heap.objs.size f cdv)))
    (σ₀ : L2.St) (h₀ : Hp) (xc : Addr → Value → Option Addr → Prop) (hN : Hp) : SSs (cxOf (L2.CX P w) P w K mg base ["_law_last", "_law_most", "_law_due", "_law_count", "_law_row"] "_law_yielded" (defScope s__law_yielded) f cdv A outer s H E) ⟨[], σ₀, h₀, xc, hN⟩ (fun cls d _ H => E cls d H) (defBody s__law_yielded) (w__law_yielded S_rows_under S__law_is_row S__law_next) :=
  (sss_cons (ss_set (i := 2) (show 2 ∉ ([] : List Nat) from by decide) sc__law_yielded.nd rfl (by first | exact .inl rfl | exact .inr rfl) (se_op vr_mulZ (se_tup (sa_cons se_int sa_nil)) (se_callB vl_len (by rfl) T.z_len (by with_unfolding_all rfl) (sa_cons (se_var (i := 0)) sa_nil))))
  (sss_cons (ss_set (i := 3) (show 3 ∉ ([] : List Nat) from by decide) sc__law_yielded.nd rfl (by first | exact .inl rfl | exact .inr rfl) se_int)
  (sss_cons (ss_forGO O_rows_under nS_rows_under poF rfl tkF rdF hr (by rfl) (sa_cons (se_frz (se_var (i := 0))) sa_nil) (sg_name (i := 4) sc__law_yielded.nd rfl (by first | exact .inl rfl | exact .inr rfl)) (show ∀ i ∈ ([4] : List Nat), i ∉ ([] : List Nat) from by decide)
  (sss_cons (ss_if (st_cmp (vr_eq hr.u64) (se_var (i := 3)) (se_var (i := 1)) (by with_unfolding_all rfl))
  (sss_one (ss_ret se_bl))
  sss_nil)
  (sss_cons (ss_if (SPW.st (spw_or (st_cmp vr_isN (se_var (i := 2)) se_non (by with_unfolding_all rfl)) (spw_or (st_not (st_tru (se_callO O__law_is_row mS__law_is_row tkF hr (by rfl) (sa_cons (se_frz (se_var (i := 4))) (sa_cons (se_frz (se_callB vl_len (by rfl) T.z_len (by with_unfolding_all rfl) (sa_cons (se_var (i := 0)) sa_nil))) sa_nil))))) (spw_or1 (st_cmp (vr_ne hr.u64) (se_var (i := 4)) (se_var (i := 2)) (by with_unfolding_all rfl))))))
  (sss_one (ss_ret se_bl))
  sss_nil)
  (sss_cons (ss_set (i := 2) (show 2 ∉ ([] : List Nat) from by decide) sc__law_yielded.nd rfl (by first | exact .inl rfl | exact .inr rfl) (se_callO O__law_next mS__law_next tkF hr (by rfl) (sa_cons (se_frz (se_var (i := 2))) (sa_cons (se_frz (se_var (i := 0))) sa_nil))))
  (sss_one (ss_set (i := 3) (show 3 ∉ ([] : List Nat) from by decide) sc__law_yielded.nd rfl (by first | exact .inl rfl | exact .inr rfl) (se_op vr_add (se_var (i := 3)) se_int)))))))
  (sss_one (ss_ret (se_cmp vr_isN (se_var (i := 2)) se_non (by with_unfolding_all rfl)))))))
theorem der_law {P : Program} {w : World} {K : PySem.W.Frag} {mg : Str → Option Value} {base : Heap} (T : Tp P w K mg base) {S__law_bag : FSpec} {S__law_take : FSpec} {S__law_small : FSpec} {S__law_yielded : FSpec} {S__law_great : FSpec} (mS__law_bag : MonoF S__law_bag) (mS__law_take : MonoF S__law_take) (mS__law_small : MonoF S__law_small) (mS__law_yielded : MonoF S__law_yielded) (mS__law_great : MonoF S__law_great) (O__law_bag : Ok P w K mg base "_law_bag" ["_law_script"] 1 S__law_bag) (O__law_take : Ok P w K mg base "_law_take" ["_law_bag_here", "_law_many"] 1 S__law_take) (O__law_small : Ok P w K mg base "_law_small" ["_law_bag_here", "_law_width"] 2 S__law_small) (O__law_yielded : Ok P w K mg base "_law_yielded" ["_law_last", "_law_most"] 9 S__law_yielded) (O__law_great : Ok P w K mg base "_law_great" ["_law_bag_here", "_law_width"] 2 S__law_great) {f : Addr} (cdv : Value) (A : Around) (outer : List Env) (s : Shared) (H : Hp) (E : XK) (hr : RoomG 9 (A.deeper (PyProof.Rows.envOfC "law" (defScope s_law) s.heap.objs.size f cdv)))
    (σ₀ : L2.St) (h₀ : Hp) (xc : Addr → Value → Option Addr → Prop) (hN : Hp) : SSs (cxOf (L2.CX P w) P w K mg base ["_law_script", "_law_bag_here", "_law_row"] "law" (defScope s_law) f cdv A outer s H E) ⟨[], σ₀, h₀, xc, hN⟩ (fun cls d _ H => E cls d H) (defBody s_law) (w_law S__law_bag S__law_take S__law_small S__law_yielded S__law_great) :=
  (sss_cons (ss_set (i := 1) (show 1 ∉ ([] : List Nat) from by decide) sc_law.nd rfl (by first | exact .inl rfl | exact .inr rfl) (se_callO O__law_bag mS__law_bag tkF hr (by rfl) (sa_cons (se_frz (se_var (i := 0))) sa_nil)))
  (sss_cons (ss_set (i := 2) (show 2 ∉ ([] : List Nat) from by decide) sc_law.nd rfl (by first | exact .inl rfl | exact .inr rfl) (se_callO O__law_small mS__law_small tkF hr (by rfl) (sa_cons (se_var (i := 1)) (sa_cons (se_frz (se_op vr_add se_int (se_callO O__law_take mS__law_take tkF hr (by rfl) (sa_cons (se_var (i := 1)) (sa_cons se_int sa_nil))))) sa_nil))))
  (sss_cons (ss_if (st_not (st_tru (se_callO O__law_yielded mS__law_yielded tkF hr (by rfl) (sa_cons (se_frz (se_var (i := 2))) (sa_cons se_int sa_nil)))))
  (sss_one (ss_ret se_bl))
  sss_nil)
  (sss_cons (ss_if (st_not (st_tru (se_callO O__law_yielded mS__law_yielded tkF hr (by rfl) (sa_cons (se_frz (se_callO O__law_great mS__law_great tkF hr (by rfl) (sa_cons (se_var (i := 1)) (sa_cons (se_frz (se_op vr_add se_int (se_callO O__law_take mS__law_take tkF hr (by rfl) (sa_cons (se_var (i := 1)) (sa_cons se_int sa_nil))))) sa_nil)))) (sa_cons se_int sa_nil)))))
  (sss_one (ss_ret se_bl))
  sss_nil)
  (sss_one (ss_ret (se_or (se_cmp (vr_ne hr.u64) (se_callO O__law_take mS__law_take tkF hr (by rfl) (sa_cons (se_var (i := 1)) (sa_cons se_int sa_nil))) se_int (by with_unfolding_all rfl)) (se_one (se_callO O__law_yielded mS__law_yielded tkF hr (by rfl) (sa_cons (se_frz (se_tup (sa_cons se_int (sa_cons se_int (sa_cons se_int sa_nil))))) (sa_cons se_int sa_nil)))))))))))
end LV
namespace LV
open PySem PySem.Spec L2
theorem ok__law_bag {P : Program} {w : World} {K : PySem.W.Frag} {mg : Str → Option Value} {base : Heap} (T : Tp P w K mg base) : Ok P w K mg base "_law_bag" ["_law_script"] 1 S__law_bag :=
  let ⟨_, _, D⟩ := T.d__law_bag
  ok_mk [] D sc__law_bag kp__law_bag (der__law_bag T )
theorem ok__law_take {P : Program} {w : World} {K : PySem.W.Frag} {mg : Str → Option Value} {base : Heap} (T : Tp P w K mg base) : Ok P w K mg base "_law_take" ["_law_bag_here", "_law_many"] 1 S__law_take :=
  let ⟨_, _, D⟩ := T.d__law_take
  ok_mk [0] D sc__law_take kp__law_take (der__law_take T )
theorem ok__law_is_integer {P : Program} {w : World} {K : PySem.W.Frag} {mg : Str → Option Value} {base : Heap} (T : Tp P w K mg base) : Ok P w K mg base "_law_is_integer" ["_law_value"] 1 S__law_is_integer :=
  let ⟨_, _, D⟩ := T.d__law_is_integer
  ok_mk [] D sc__law_is_integer kp__law_is_integer (der__law_is_integer T )
theorem ok__law_next {P : Program} {w : World} {K : PySem.W.Frag} {mg : Str → Option Value} {base : Heap} (T : Tp P w K mg base) : Ok P w K mg base "_law_next" ["_law_row", "_law_last"] 1 S__law_next :=
  let ⟨_, _, D⟩ := T.d__law_next
  ok_mk [] D sc__law_next kp__law_next (der__law_next T )
theorem ok__law_is_row {P : Program} {w : World} {K : PySem.W.Frag} {mg : Str → Option Value} {base : Heap} (T : Tp P w K mg base) : Ok P w K mg base "_law_is_row" ["_law_value", "_law_width"] 2 S__law_is_row :=
  let ⟨_, _, D⟩ := T.d__law_is_row
  ok_mk [] D sc__law_is_row kp__law_is_row (der__law_is_row T mS__law_is_integer (ok__law_is_integer T))
theorem ok__law_small {P : Program} {w : World} {K : PySem.W.Frag} {mg : Str → Option Value} {base : Heap} (T : Tp P w K mg base) : Ok P w K mg base "_law_small" ["_law_bag_here", "_law_width"] 2 S__law_small :=
  let ⟨_, _, D⟩ := T.d__law_small
  ok_mk [0] D sc__law_small kp__law_small (der__law_small T mS__law_take (ok__law_take T))
theorem ok__law_great {P : Program} {w : World} {K : PySem.W.Frag} {mg : Str → Option Value} {base : Heap} (T : Tp P w K mg base) : Ok P w K mg base "_law_great" ["_law_bag_here", "_law_width"] 2 S__law_great :=
  let ⟨_, _, D⟩ := T.d__law_great
  ok_mk [0] D sc__law_great kp__law_great (der__law_great T mS__law_take (ok__law_take T))
theorem ok_rows_under_d {P : Program} {w : World} {K : PySem.W.Frag} {mg : Str → Option Value} {base : Heap} (T : Tp P w K mg base) : ∀ n, OkG P w K mg base "rows_under" ["row"] n (S_rows_under_d n)
  | 0 => let ⟨_, _, D⟩ := T.d_rows_under; (okG_no D).imp z_rows_under (Nat.le_refl _)
  | n + 1 => let ⟨_, _, D⟩ := T.d_rows_under; okG_mk D sc_rows_under (by decide +kernel) (kp_rows_under_d n) (fun cdv AW outer n0 gn y hr => der_rows_under T (ok_rows_under_d T n) (Nat.le_refl n) cdv AW outer n0 gn y hr)
theorem ok_rows_under {P : Program} {w : World} {K : PySem.W.Frag} {mg : Str → Option Value} {base : Heap} (T : Tp P w K mg base) : OkG P w K mg base "rows_under" ["row"] 8 S_rows_under := (ok_rows_under_d T 8).imp in_rows_under (Nat.le_refl _)
theorem ok__law_yielded {P : Program} {w : World} {K : PySem.W.Frag} {mg : Str → Option Value} {base : Heap} (T : Tp P w K mg base) : Ok P w K mg base "_law_yielded" ["_law_last", "_law_most"] 9 S__law_yielded :=
  let ⟨_, _, D⟩ := T.d__law_yielded
  ok_mk [] D sc__law_yielded kp__law_yielded (der__law_yielded T nS_rows_under mS__law_is_row mS__law_next (ok_rows_under T) (ok__law_is_row T) (ok__law_next T))
end LV
set_option maxHeartbeats 1000000
namespace LV
open PySem PySem.Spec L2
end LV
namespace LV
open PySem PySem.Spec L2
end LV
namespace LV
open PySem PySem.Spec PySem.W L2
end LV
namespace LV
open PySem PySem.Spec PySem.W L2
end LV
open PySem PySem.W PyProof.Rows
local macro_rules | `(tactic| kernel_rfl) => `(tactic| (with_reducible refine LV.map3 ?e1 ?e2 ?e3; (case e1 => exact LV.hd_e1 _ _); (case e2 => refine LV.seen9q (q' := LV.hdQ) (Xf := LV.hdF) ?hq (LV.hd_a1 _ _) (LV.hd_a2 _ _) (LV.hd_a3 _ _) (LV.hd_a4 _ _) (LV.hd_a5 _ _) (LV.hd_a6 _ _) (LV.hd_a7 _ _) (LV.hd_a8 _ _) (LV.hd_a9 _ _); (case hq => kernel_rfl)); (case e3 => exact LV.hd_e3 _ _)))
set_option maxHeartbeats 0 in
theorem PySem.Challenge.cw_lampthrong_k02_rows_under_holds : PySem.Challenge.rw_lampthrong_k02_rows_under.Holds := by
  w_on; o_law; o_headL (PySem.W.kHook LV.hdry.heap_1 LV.hdA (fun _ => by kernel_rfl)); (case hw => w_witness2)
  k_fill
  refine LV.walk_lv (l := PySem.Challenge.rw_lampthrong_k02_rows_under) (n := 63) (k := 10) (x := "_law_script") rfl (by decide) rfl ⟨⟨rfl, by decide, by decide⟩, rfl⟩ (fun w h Y => PySem.W.kIn_of Y) ?F
  case F =>
    intro w mg fa h KX GG hmg
    have T : ∀ base : Heap, LV.Tp PySem.Challenge.pw_lampthrong_k02_rows_under w _ mg base := fun base => by
      refine ⟨?_, ?_, ?_, ?_, ?_, ?_, ?_, ?_, ?_, ?_, ?_, ?_, ?_, ?_, ?_, ?_, ?_, ?_, ?_⟩
      · refine' LV.dat_mk KX GG ?a ?l ?c ?k ?b; (case a => k_is); (case l => k_is); (case c => k_is); (case k => k_is); (case b => exact fun _ _ _ _ _ _ us hl => match us, hl with | [_], _ => rfl)
      · refine' LV.dat_mk KX GG ?a ?l ?c ?k ?b; (case a => k_is); (case l => k_is); (case c => k_is); (case k => k_is); (case b => exact fun _ _ _ _ _ _ us hl => match us, hl with | [_, _], _ => rfl)
      · refine' LV.dat_mk KX GG ?a ?l ?c ?k ?b; (case a => k_is); (case l => k_is); (case c => k_is); (case k => k_is); (case b => exact fun _ _ _ _ _ _ us hl => match us, hl with | [_], _ => rfl)
      · refine' LV.dat_mk KX GG ?a ?l ?c ?k ?b; (case a => k_is); (case l => k_is); (case c => k_is); (case k => k_is); (case b => exact fun _ _ _ _ _ _ us hl => match us, hl with | [_, _], _ => rfl)
      · refine' LV.dat_mk KX GG ?a ?l ?c ?k ?b; (case a => k_is); (case l => k_is); (case c => k_is); (case k => k_is); (case b => exact fun _ _ _ _ _ _ us hl => match us, hl with | [_, _], _ => rfl)
      · refine' LV.dat_mk KX GG ?a ?l ?c ?k ?b; (case a => k_is); (case l => k_is); (case c => k_is); (case k => k_is); (case b => exact fun _ _ _ _ _ _ us hl => match us, hl with | [_, _], _ => rfl)
      · refine' LV.dat_mk KX GG ?a ?l ?c ?k ?b; (case a => k_is); (case l => k_is); (case c => k_is); (case k => k_is); (case b => exact fun _ _ _ _ _ _ us hl => match us, hl with | [_, _], _ => rfl)
      · refine' LV.dat_mk KX GG ?a ?l ?c ?k ?b; (case a => k_is); (case l => k_is); (case c => k_is); (case k => k_is); (case b => exact fun _ _ _ _ _ _ us hl => match us, hl with | [_], _ => rfl)
      · refine' LV.dat_mk KX GG ?a ?l ?c ?k ?b; (case a => k_is); (case l => k_is); (case c => k_is); (case k => k_is); (case b => exact fun _ _ _ _ _ _ us hl => match us, hl with | [_, _], _ => rfl)
      · refine' LV.dat_mk KX GG ?a ?l ?c ?k ?b; (case a => k_is); (case l => k_is); (case c => k_is); (case k => k_is); (case b => exact fun _ _ _ _ _ _ us hl => match us, hl with | [_], _ => rfl)
      · refine' PySem.W.mg_none_of KX GG ?_; k_is
      · refine' PySem.W.mg_none_of KX GG ?_; k_is
      · refine' PySem.W.mg_none_of KX GG ?_; k_is
      · refine' PySem.W.mg_none_of KX GG ?_; k_is
      · refine' PySem.W.mg_none_of KX GG ?_; k_is
      · refine' PySem.W.mg_none_of KX GG ?_; k_is
      · refine' PySem.W.mg_none_of KX GG ?_; k_is
      · refine' PySem.W.mg_none_of KX GG ?_; k_is
      · refine' PySem.W.mg_none_of KX GG ?_; k_is
    exact LV.law_at hmg (T h).d_law (fun _ _ _ _ _ _ us hl => match us, hl with | [_], _ => rfl) fun base f fd D => LV.fnG_mk [] D LV.sc_law LV.kp_law (LV.der_law (T base) LV.mS__law_bag LV.mS__law_take LV.mS__law_small LV.mS__law_yielded LV.mS__law_great (LV.ok__law_bag (T base)) (LV.ok__law_take (T base)) (LV.ok__law_small (T base)) (LV.ok__law_yielded (T base)) (LV.ok__law_great (T base)))
