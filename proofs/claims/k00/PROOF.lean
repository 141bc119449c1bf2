import PyProof.Rows.All
import HandS.ForMost
import HandS.Exc
import HandS.ExcOwn
import HandS.ExcField
import HandS.ExcInit
import KE.KeyNested
import HandS.TupAny
import HandS.Text
import HandS.Iter
import HandS.Zip
import HandS.Rev
import HandS.Comp
import HandS.WordsExc
import KE.KExcSuper
import HandS.Words
import HandS.Deep
import HandS.TupLe
import HandS.TupMul
import HandS.IsInst
import HandS.WideBits
import HandS.Style
import HandS.EndBits
import OpenK.AllK
import Wide.All
import Wide.FinOn
import KE.OsRunLaw
import HandS.TupSets
import PyProof.ReprRoads
import PyProof.CallFns
import PyProof.ListMulRoad
import PyProof.FactsAll.tuple_2
import PyProof.P3Eq
import PyProof.NeData
import HandS.Conv
import KE.SortKeyHeap
import HandS.SortKw
import HandS.Star
import KE.GoesMore
import HandS.ClsMeth
import HandS.Property
import HandS.SortInts
import HandS.Set
import HandS.SetFor
import HandS.More
import HandS.ExcIs
import KE.KExcIs
import HandS.FStr
import HandS.RaiseMore
import PyProof.StrBlock2
import KE.KSuper
import HandS.MakeKwOnly
import HandS.Dict
import KE.KDictCopyH
import PyProof.NsCount
import HandS.Defaults
import HandS.Strs
import KE.KRevSl
import HandS.TryOnly
import KE.KTupSum
import HandS.List
import PyProof.ReprLen
import PyProof.FitsInt
import PyProof.Rows.ReprOcc
import PyProof.StrLawsTight
import PyProof.StrLawsJoin
import PySem.Challenge.RW_lampthrong_k00_rows_in_order
set_option Elab.async false
set_option linter.all false
set_option maxRecDepth 100000
namespace LV
open PySem PySem.Spec L2
inductive D where
  | non | bl (b : Bool) | int (i : Int) | str (s : Str)
  | tup (xs : List D) | lst (xs : List D)
  | dct (ks vs : List D)
  | ins (C : Str) (ks : List Str) (vs : List D)
  /-- the law's script: a locked list of ints -/
  | scr (ns : List Int)
  /-- an own class -/
  | cls (C : Str)
  /-- whatever stands at a -/
  | ptr (a : Addr)
  /-- a tuple of which it is known that it has no attributes of its own -/
  | tpn (xs : List D)
  /-- an error of an own class that is held as a value -/
  | exn (C : Str) (ks : List Str) (vs : List D)
  deriving Inhabited
/-- an item of an owned list that owns some of its items: data, a list of one's own at q, a dict of one's own at q -/
inductive NI where
  | d (x : D)
  | l (q : Addr) (ds : List D)
  | t (q : Addr) (ks vs : List D)
def NI.dt : NI → D
  | .d x => x
  | .l _ ds => .lst ds
  | .t _ ks vs => .dct ks vs
def innL : List NI → List Addr
  | [] => []
  | .d _ :: xs => innL xs
  | .l q _ :: xs => q :: innL xs
  | .t q _ _ :: xs => q :: innL xs
/-- an owned object's content -/
inductive O where
  | lst (xs : List D)
  | dct (ks vs : List D)
  | ins (C : Str) (ks : List Str) (vs : List D)
  | nst (xs : List NI)
def O.d : O → D
  | .lst xs => .lst xs
  | .dct ks vs => .dct ks vs
  | .ins C ks vs => .ins C ks vs
  | .nst xs => .lst (xs.map NI.dt)
/-- what stands within it and is owned, too -/
def O.inn : O → List Addr
  | .nst xs => innL xs
  | _ => []
/-- p, which holds o, or what stands within -/
def Has (p : Addr) (o : O) (b : Addr) : Prop := b = p ∨ b ∈ o.inn
theorem Has.self {p : Addr} {o : O} : Has p o p := .inl rfl
theorem has1 {P : Addr → Prop} {p : Addr} {o : O} (hi : o.inn = []) (h : P p) : ∀ b, Has p o b → P b := fun b hb => by
  rcases hb with rfl | hb
  · exact h
  · rw [hi] at hb; cases hb
/-- what a slot holds -/
inductive Val where
  | fz (d : D)
  | ow (o : O)
  | ex (a : Addr) (C : Str) (ks : List Str) (vs : List D)
abbrev En := List (Option Val)
/-- an expression's value: data, a new owned object, or the object that slot i owns -/
inductive Rv where
  | fz (d : D)
  | ow (o : O)
  | sl (i : Nat)
/-- an exception in the air: its class, its fields -/
structure Xn where
  C : Str
  ks : List Str
  vs : List D
structure Md where
  K : PySem.W.Frag
  mg : Str → Option Value
  w : World
def kD : Key → D
  | .inl i => .int i
  | .inr x => .str x
mutual
def nkD : NestedKey → D
  | .none => .non
  | .num i => .int i
  | .text x => .str x
  | .tup ks => .tup (nkDs ks)
def nkDs : List NestedKey → List D
  | [] => []
  | k :: ks => nkD k :: nkDs ks
end
def NDO (w : World) (a : Addr) (xs : List (NestedKey × Addr × Value)) : HO := .ext fun h => (a == sysModules) = false ∧ xs.length ≤ sizeLine ∧ (xs.map (·.1)).Nodup ∧ ∃ o es ep, h.get? a = some o ∧ o.ExactDict ∧ o.data = .dict es ep ∧ es.toList = xs.map fun x => ⟨x.1.hash w, .ref x.2.1, x.2.2⟩
mutual
inductive Rep (M : Md) (F : Hp) : V → D → Prop
  | non : Rep M F .non .non
  | bl (b) : Rep M F (.bl b) (.bl b)
  | int (i) : Rep M F (.int i) (.int i)
  | str (s) : Rep M F (.str s) (.str s)
  | tup {a xs ds} : SqT M.K F a xs → RepL M F xs ds → Rep M F (.ref a) (.tup ds)
  | lst {a xs ds} : F a = some (.lst xs) → RepL M F xs ds → Rep M F (.ref a) (.lst ds)
  | scr {a ns} : SqL M.K F a (ns.map V.int) → Rep M F (.ref a) (.scr ns)
  | dK {a} {kv : List (Key × V)} {vs ds} : F a = some (.dK kv) → kv.map (·.2) = vs → RepL M F vs ds → Rep M F (.ref a) (.dct (kv.map fun p => kD p.1) ds)
  | dN {a xs vs ks ds} : F a = some (NDO M.w a xs) → ks = xs.map (fun x => nkD x.1) → ((∀ x ∈ xs, x.1.depth ≤ 8) ∧ xs ≠ []) → RepL M F (xs.map fun x => V.ref x.2.1) ks → Vals vs (xs.map fun x => x.2.2) → RepL M F vs ds → Rep M F (.ref a) (.dct ks ds)
  | cls {C c} : M.mg C = some (.ref c) → Rep M F (.ref c) (.cls C)
  | ptr {a} : Rep M F (.ref a) (.ptr a)
  | tpn {a o xs ds} : F a = some (.frz o (.tup xs)) → o.dict = none → RepL M F xs ds → Rep M F (.ref a) (.tpn ds)
  | exn {a C c dx} {fv : List (Str × V)} {vs ds} : M.mg C = some (.ref c) → F a = some (exo a c (some dx)) → F dx = some (exd dx fv) → fv.map (·.2) = vs → RepL M F vs ds → Rep M F (.ref a) (.exn C (fv.map (·.1)) ds)
  | ex0 {a C c} : M.mg C = some (.ref c) → F a = some (exo a c none) → Rep M F (.ref a) (.exn C [] [])
  | ins {a C c dx} {fv : List (Str × V)} {vs ds} : M.mg C = some (.ref c) → F a = some (.ins c dx fv) → fv.map (·.2) = vs → RepL M F vs ds → Rep M F (.ref a) (.ins C (fv.map (·.1)) ds)
inductive RepL (M : Md) (F : Hp) : List V → List D → Prop
  | nil : RepL M F [] []
  | cons {v vs d ds} : Rep M F v d → RepL M F vs ds → RepL M F (v :: vs) (d :: ds)
end
section
variable {M : Md} {F F' : Hp}
theorem Same.sqT (s : Same F F') {K : PySem.W.Frag} {a : Addr} {xs : List V} (h : SqT K F a xs) : SqT K F' a xs := by
  rcases h with (h | ⟨o, h⟩) | h
  · exact .inl (.inl (s _ _ h))
  · exact .inl (.inr ⟨o, s _ _ h⟩)
  · exact .inr h
mutual
theorem Rep.same (s : Same F F') : ∀ {v : V} {d : D}, Rep M F v d → Rep M F' v d
  | _, _, .non => .non
  | _, _, .bl b => .bl b
  | _, _, .int i => .int i
  | _, _, .str x => .str x
  | _, _, .tup h r => .tup (Same.sqT s h) (RepL.same s r)
  | _, _, .lst h r => .lst (s _ _ h) (RepL.same s r)
  | _, _, .scr h => .scr (s.seq h)
  | _, _, .dK h e r => .dK (s _ _ h) e (RepL.same s r)
  | _, _, .dN h e1 e2 r1 e3 r2 => .dN (s _ _ h) e1 e2 (RepL.same s r1) e3 (RepL.same s r2)
  | _, _, .cls g => .cls g
  | _, _, .ptr => .ptr
  | _, _, .tpn h n r => .tpn (s _ _ h) n (RepL.same s r)
  | _, _, .exn g h1 h2 e r => .exn g (s _ _ h1) (s _ _ h2) e (RepL.same s r)
  | _, _, .ex0 g h => .ex0 g (s _ _ h)
  | _, _, .ins g h e r => .ins g (s _ _ h) e (RepL.same s r)
theorem RepL.same (s : Same F F') : ∀ {vs : List V} {ds : List D}, RepL M F vs ds → RepL M F' vs ds
  | _, _, .nil => .nil
  | _, _, .cons h r => .cons (Rep.same s h) (RepL.same s r)
end
theorem RepL.length : ∀ {vs : List V} {ds : List D}, RepL M F vs ds → vs.length = ds.length
  | _, _, .nil => rfl
  | _, _, .cons _ r => by rw [List.length_cons, List.length_cons, r.length]
theorem RepL.append : ∀ {vs us : List V} {ds es : List D}, RepL M F vs ds → RepL M F us es → RepL M F (vs ++ us) (ds ++ es)
  | _, _, _, _, .nil, s => s
  | _, _, _, _, .cons h r, s => .cons h (RepL.append r s)
theorem RepL.get : ∀ {vs : List V} {ds : List D} {i : Nat} {v : V}, RepL M F vs ds → vs[i]? = some v → ∃ d, ds[i]? = some d ∧ Rep M F v d
  | _, _, _, _, .nil, e => by simp at e
  | _, _, 0, _, .cons h _, e => by simp at e; subst e; exact ⟨_, rfl, h⟩
  | _, _, i + 1, v, .cons _ r, e => by
    obtain ⟨d, h1, h2⟩ := RepL.get (i := i) (v := v) r (by simpa using e)
    exact ⟨d, by simpa using h1, h2⟩
theorem RepL.get' : ∀ {vs : List V} {ds : List D} {i : Nat} {d : D}, RepL M F vs ds → ds[i]? = some d → ∃ v, vs[i]? = some v ∧ Rep M F v d
  | _, _, _, _, .nil, e => by simp at e
  | _, _, 0, _, .cons h _, e => by simp at e; subst e; exact ⟨_, rfl, h⟩
  | _, _, i + 1, d, .cons _ r, e => by
    obtain ⟨v, h1, h2⟩ := RepL.get' (i := i) (d := d) r (by simpa using e)
    exact ⟨v, by simpa using h1, h2⟩
theorem RepL.take : ∀ {vs : List V} {ds : List D} (n : Nat), RepL M F vs ds → RepL M F (vs.take n) (ds.take n)
  | _, _, 0, _ => .nil
  | _, _, _ + 1, .nil => .nil
  | _, _, n + 1, .cons h r => .cons h (RepL.take n r)
theorem RepL.drop : ∀ {vs : List V} {ds : List D} (n : Nat), RepL M F vs ds → RepL M F (vs.drop n) (ds.drop n)
  | _, _, 0, r => r
  | _, _, _ + 1, .nil => .nil
  | _, _, n + 1, .cons _ r => RepL.drop n r
theorem RepL.reverse : ∀ {vs : List V} {ds : List D}, RepL M F vs ds → RepL M F vs.reverse ds.reverse
  | _, _, .nil => .nil
  | _, _, .cons h r => by
    rw [List.reverse_cons, List.reverse_cons]
    exact (RepL.reverse r).append (.cons h .nil)
theorem RepL.set {v : V} {d : D} (h : Rep M F v d) : ∀ {vs : List V} {ds : List D} (i : Nat), RepL M F vs ds → RepL M F (vs.set i v) (ds.set i d)
  | _, _, _, .nil => .nil
  | _, _, 0, .cons _ t => .cons h t
  | _, _, i + 1, .cons q t => .cons q (RepL.set h i t)
theorem RepL.ints : ∀ {vs : List V} {ns : List Int}, RepL M F vs (ns.map D.int) → vs = ns.map V.int
  | _, [], .nil => rfl
  | _, n :: ns, .cons h r => by
    cases h
    rw [RepL.ints (ns := ns) r]; rfl
theorem RepL.of_ints : ∀ (ns : List Int), RepL M F (ns.map V.int) (ns.map D.int)
  | [] => .nil
  | n :: ns => .cons (.int n) (RepL.of_ints ns)
end
abbrev DRep (M : Md) (F H : Hp) (p : Addr) (ks ds : List D) : Prop := (∃ kv : List (Key × V), H p = some (.dK kv) ∧ kv.map (fun p => kD p.1) = ks ∧ RepL M F (kv.map (·.2)) ds) ∨
      (∃ xs vs, H p = some (NDO M.w p xs) ∧ ks = xs.map (fun x => nkD x.1) ∧ ((∀ x ∈ xs, x.1.depth ≤ 8) ∧ xs ≠ []) ∧ RepL M F (xs.map fun x => V.ref x.2.1) ks ∧ Vals vs (xs.map fun x => x.2.2) ∧ RepL M F vs ds)
/-- the items of an owned list that owns some of its items -/
inductive NRepL (M : Md) (F H : Hp) : List V → List NI → Prop
  | nil : NRepL M F H [] []
  | d {v x vs xs} : Rep M F v x → NRepL M F H vs xs → NRepL M F H (v :: vs) (.d x :: xs)
  | l {q us ds vs xs} : F q = none → H q = some (.lst us) → RepL M F us ds → NRepL M F H vs xs → NRepL M F H (.ref q :: vs) (.l q ds :: xs)
  | t {q ks ds vs xs} : F q = none → DRep M F H q ks ds → NRepL M F H vs xs → NRepL M F H (.ref q :: vs) (.t q ks ds :: xs)
theorem DRep.same {M : Md} {F F' H H' : Hp} {p : Addr} {ks ds : List D} (s : Same F F') (e : H' p = H p) (h : DRep M F H p ks ds) : DRep M F' H' p ks ds := by
  rcases h with ⟨kv, h1, h2, h3⟩ | ⟨xs, vs, h1, h2, h3, h4, h5, h6⟩
  · exact .inl ⟨kv, e.trans h1, h2, h3.same s⟩
  · exact .inr ⟨xs, vs, e.trans h1, h2, h3, h4.same s, h5, h6.same s⟩
theorem DRep.there {M : Md} {F H : Hp} {p : Addr} {ks ds : List D} (h : DRep M F H p ks ds) : ∃ u, H p = some u := by
  rcases h with ⟨kv, h1, _⟩ | ⟨xs, vs, h1, _⟩
  · exact ⟨_, h1⟩
  · exact ⟨_, h1⟩
theorem NRepL.same {M : Md} {F F' H H' : Hp} (s : Same F F') : ∀ {vs : List V} {xs : List NI}, (∀ b ∈ innL xs, H' b = H b ∧ F' b = none) → NRepL M F H vs xs → NRepL M F' H' vs xs
  | _, _, _, .nil => .nil
  | _, _, e, .d h tl => .d (h.same s) (NRepL.same s e tl)
  | _, _, e, .l _ h r tl => .l (e _ List.mem_cons_self).2 ((e _ List.mem_cons_self).1.trans h) (r.same s) (NRepL.same s (fun b hb => e b (List.mem_cons_of_mem _ hb)) tl)
  | _, _, e, .t _ h tl => .t (e _ List.mem_cons_self).2 (DRep.same s (e _ List.mem_cons_self).1 h) (NRepL.same s (fun b hb => e b (List.mem_cons_of_mem _ hb)) tl)
theorem NRepL.inner {M : Md} {F H : Hp} : ∀ {vs : List V} {xs : List NI}, NRepL M F H vs xs → ∀ b ∈ innL xs, F b = none ∧ ∃ u, H b = some u
  | _, _, .nil, _, hb => nomatch hb
  | _, _, .d _ tl, b, hb => NRepL.inner tl b hb
  | _, _, .l f h _ tl, b, hb => by
    rcases List.mem_cons.mp hb with rfl | hb
    · exact ⟨f, _, h⟩
    · exact NRepL.inner tl b hb
  | _, _, .t f h tl, b, hb => by
    rcases List.mem_cons.mp hb with rfl | hb
    · exact ⟨f, DRep.there h⟩
    · exact NRepL.inner tl b hb
theorem NRepL.length {M : Md} {F H : Hp} : ∀ {vs : List V} {xs : List NI}, NRepL M F H vs xs → vs.length = xs.length
  | _, _, .nil => rfl
  | _, _, .d _ tl => by rw [List.length_cons, List.length_cons, tl.length]
  | _, _, .l _ _ _ tl => by rw [List.length_cons, List.length_cons, tl.length]
  | _, _, .t _ _ tl => by rw [List.length_cons, List.length_cons, tl.length]
/-- the heap object of an owned content at p -/
def ORep (M : Md) (F H : Hp) (p : Addr) : O → Prop
  | .nst xs => ∃ vs, H p = some (.lst vs) ∧ NRepL M F H vs xs ∧ (p :: innL xs).Nodup
  | .lst ds => ∃ xs, H p = some (.lst xs) ∧ RepL M F xs ds
  | .dct ks ds => (∃ kv : List (Key × V), H p = some (.dK kv) ∧ kv.map (fun p => kD p.1) = ks ∧ RepL M F (kv.map (·.2)) ds) ∨
      (∃ xs vs, H p = some (NDO M.w p xs) ∧ ks = xs.map (fun x => nkD x.1) ∧ ((∀ x ∈ xs, x.1.depth ≤ 8) ∧ xs ≠ []) ∧ RepL M F (xs.map fun x => V.ref x.2.1) ks ∧ Vals vs (xs.map fun x => x.2.2) ∧ RepL M F vs ds)
  | .ins C ks ds => ∃ c dx fv, M.mg C = some (.ref c) ∧ H p = some (.ins c dx fv) ∧ fv.map (·.1) = ks ∧ RepL M F (fv.map (·.2)) ds
theorem same_upd {F : Hp} {p : Addr} {o : HO} (h : F p = none) : Same F (upd F p o) := fun b x e => by
  rw [upd_ne (ne_of_none e h)]; exact e
theorem same_updR {F H : Hp} {p : Addr} {o : HO} (s : Same F H) (h : H p = some o) : Same (upd F p o) H := fun b x e => by
  by_cases hb : b = p
  · subst hb; rw [upd_same] at e; cases e; exact h
  · rw [upd_ne hb] at e; exact s _ _ e
theorem ORep.same {M : Md} {F F' H H' : Hp} {p : Addr} {o : O} (s : Same F F') (e : H' p = H p) (hin : ∀ b ∈ o.inn, H' b = H b ∧ F' b = none) (h : ORep M F H p o) : ORep M F' H' p o := by
  cases o with
  | nst xs => obtain ⟨vs, h1, h2, h3⟩ := h; exact ⟨vs, e.trans h1, h2.same s hin, h3⟩
  | lst ds => obtain ⟨xs, h1, h2⟩ := h; exact ⟨xs, e.trans h1, h2.same s⟩
  | dct ks ds =>
    rcases h with ⟨kv, h1, h2, h3⟩ | ⟨xs, vs, h1, h2, h3, h4, h5, h6⟩
    · exact .inl ⟨kv, e.trans h1, h2, h3.same s⟩
    · exact .inr ⟨xs, vs, e.trans h1, h2, h3, h4.same s, h5, h6.same s⟩
  | ins C ks ds => obtain ⟨c, dx, fv, g, h1, h2, h3⟩ := h; exact ⟨c, dx, fv, g, e.trans h1, h2, h3.same s⟩
theorem ORep.there {M : Md} {F H : Hp} {p : Addr} {o : O} (h : ORep M F H p o) : ∃ u, H p = some u := by
  cases o with
  | nst xs => obtain ⟨vs, h1, _⟩ := h; exact ⟨_, h1⟩
  | lst ds => obtain ⟨xs, h1, _⟩ := h; exact ⟨_, h1⟩
  | dct ks ds => exact DRep.there h
  | ins C ks ds => obtain ⟨c, dx, fv, g, h1, h2, h3⟩ := h; exact ⟨_, h1⟩
theorem ORep.inner {M : Md} {F H : Hp} {p : Addr} {o : O} (h : ORep M F H p o) : ∀ b ∈ o.inn, F b = none ∧ ∃ u, H b = some u := by
  cases o with
  | nst xs => obtain ⟨vs, _, h2, _⟩ := h; exact h2.inner
  | _ => exact fun b hb => nomatch hb
theorem ORep.has {M : Md} {F H : Hp} {p : Addr} {o : O} (h : ORep M F H p o) (hp : F p = none) : ∀ b, Has p o b → F b = none ∧ ∃ u, H b = some u := fun b hb => by
  rcases hb with rfl | hb
  · exact ⟨hp, h.there⟩
  · exact h.inner b hb
/-- F' is F and what stands at S -/
structure FrzTo (F H F' : Hp) (S : Addr → Prop) : Prop where
  fs : Same F F'
  sub : Same F' H
  fn : ∀ b u, F' b = some u → F b = some u ∨ S b
  ne : ∀ b, ¬ S b → F' b = F b
theorem FrzTo.one {F H : Hp} {p : Addr} {u : HO} (s : Same F H) (hp : F p = none) (hu : H p = some u) : FrzTo F H (upd F p u) (· = p) where
  fs := same_upd hp
  sub := same_updR s hu
  fn := fun b v h => by
    by_cases e : b = p
    · exact .inr e
    · rw [upd_ne e] at h; exact .inl h
  ne := fun b h => upd_ne h
theorem FrzTo.trans {F H F1 F2 : Hp} {S T : Addr → Prop} (a : FrzTo F H F1 S) (b : FrzTo F1 H F2 T) : FrzTo F H F2 fun x => S x ∨ T x where
  fs := a.fs.trans b.fs
  sub := b.sub
  fn := fun x u h => by
    rcases b.fn x u h with h | h
    · rcases a.fn x u h with h | h
      · exact .inl h
      · exact .inr (.inl h)
    · exact .inr (.inr h)
  ne := fun x h => (b.ne x fun z => h (.inr z)).trans (a.ne x fun z => h (.inl z))
theorem FrzTo.mono {F H F1 : Hp} {S T : Addr → Prop} (a : FrzTo F H F1 S) (h : ∀ b, S b ↔ T b) : FrzTo F H F1 T := by
  have : S = T := funext fun b => propext (h b)
  exact this ▸ a
theorem FrzTo.refl {F H : Hp} {S : Addr → Prop} (s : Same F H) (h : ∀ b, ¬ S b) : FrzTo F H F S := ⟨Same.refl _, s, fun _ _ h => .inl h, fun _ _ => rfl⟩
theorem DRep.freeze {M : Md} {F H : Hp} {p : Addr} {ks ds : List D} (h : DRep M F H p ks ds) (hp : F p = none) : ∃ u, H p = some u ∧ Rep M (upd F p u) (.ref p) (.dct ks ds) := by
  have s : ∀ u, Same F (upd F p u) := fun u => same_upd hp
  rcases h with ⟨kv, h1, h2, h3⟩ | ⟨xs, vs, h1, h2, h3, h4, h5, h6⟩
  · subst h2; exact ⟨_, h1, .dK upd_same rfl (h3.same (s _))⟩
  · exact ⟨_, h1, .dN upd_same h2 h3 (h4.same (s _)) h5 (h6.same (s _))⟩
theorem NRepL.freeze {M : Md} {H : Hp} : ∀ {F : Hp} {vs : List V} {xs : List NI}, Same F H → NRepL M F H vs xs → (innL xs).Nodup → ∃ F', FrzTo F H F' (· ∈ innL xs) ∧ RepL M F' vs (xs.map NI.dt)
  | F, _, _, s, .nil, _ => ⟨F, .refl s (fun _ h => nomatch h), .nil⟩
  | F, _, _, s, .d h tl, n => by
    obtain ⟨F', a, b⟩ := NRepL.freeze s tl n
    exact ⟨F', a, .cons (h.same a.fs) b⟩
  | F, _, _, s, .l (q := q) (xs := xs) hf h r tl, n => by
    have n' := List.nodup_cons.mp n
    have a := FrzTo.one s hf h
    have t' : NRepL M (upd F q _) H _ xs := tl.same a.fs fun b hb => ⟨rfl, by
      have : b ≠ q := fun z => n'.1 (z ▸ hb)
      rw [upd_ne this]; exact (tl.inner b hb).1⟩
    obtain ⟨F', b, c⟩ := NRepL.freeze a.sub t' n'.2
    exact ⟨F', (a.trans b).mono fun x => List.mem_cons.symm, .cons (.lst (b.fs _ _ upd_same) (r.same (a.fs.trans b.fs))) c⟩
  | F, _, _, s, .t (q := q) (xs := xs) hf h tl, n => by
    have n' := List.nodup_cons.mp n
    obtain ⟨u, hu, rp⟩ := DRep.freeze h hf
    have a := FrzTo.one s hf hu
    have t' : NRepL M (upd F q u) H _ xs := tl.same a.fs fun b hb => ⟨rfl, by
      have : b ≠ q := fun z => n'.1 (z ▸ hb)
      rw [upd_ne this]; exact (tl.inner b hb).1⟩
    obtain ⟨F', b, c⟩ := NRepL.freeze a.sub t' n'.2
    exact ⟨F', (a.trans b).mono fun x => List.mem_cons.symm, .cons (rp.same b.fs) c⟩
/-- an owned object is frozen -/
theorem ORep.freeze {M : Md} {F H : Hp} {p : Addr} {o : O} (sm : Same F H) (h : ORep M F H p o) (hp : F p = none) : ∃ F', FrzTo F H F' (Has p o) ∧ Rep M F' (.ref p) o.d := by
  have s : ∀ u, Same F (upd F p u) := fun u => same_upd hp
  have e0 : ∀ {o : O}, o.inn = [] → ∀ b, b = p ↔ Has p o b := fun ho b => ⟨fun z => .inl z, fun z => has1 (P := (· = p)) ho rfl b z⟩
  cases o with
  | lst ds => obtain ⟨xs, h1, h2⟩ := h; exact ⟨_, (FrzTo.one sm hp h1).mono (e0 rfl), .lst upd_same (h2.same (s _))⟩
  | dct ks ds =>
    obtain ⟨u, hu, rp⟩ := DRep.freeze h hp
    exact ⟨_, (FrzTo.one sm hp hu).mono (e0 rfl), rp⟩
  | ins C ks ds => obtain ⟨c, dx, fv, g, h1, h2, h3⟩ := h; subst h2; exact ⟨_, (FrzTo.one sm hp h1).mono (e0 rfl), .ins g upd_same rfl (h3.same (s _))⟩
  | nst xs =>
    obtain ⟨vs, h1, h2, h3⟩ := h
    have n' := List.nodup_cons.mp h3
    obtain ⟨F1, a, b⟩ := h2.freeze sm n'.2
    have hp1 : F1 p = none := (a.ne p n'.1).trans hp
    have c := FrzTo.one a.sub hp1 h1
    exact ⟨_, (a.trans c).mono fun x => Or.comm, .lst upd_same (b.same c.fs)⟩
/-- the addresses that the slots own -/
def Own (σ : St) (env : En) (b : Addr) : Prop := ∃ (i : Nat) (o : O), env[i]? = some (some (Val.ow o)) ∧ ∃ p, σ[i]? = some (some (V.ref p)) ∧ Has p o b
/-- what a def's proof fixes: the slots that are not stored (its owned parameters), their values, the tracked heap at its start -/
structure Ct where
  pn : List Nat
  σ₀ : St
  h₀ : Hp
  xc : Addr → Value → Option Addr → Prop
  /-- the tracked heap before what stands within owned objects was made -/
  hN : Hp
/-- arguments: none of them owns within -/
def ctN (H : Hp) : Ct := ⟨[], [], fun _ => none, fun _ _ _ => False, H⟩
def XOk (M : Md) (F : Hp) (x : Xn) (c : Value) (d : Option Addr) : Prop :=
  ∃ C, M.mg x.C = some (.ref C) ∧ c = .ref C ∧ ((d = none ∧ x.ks = [] ∧ x.vs = []) ∨ ∃ (dd : Addr) (fv : List (Str × V)), d = some dd ∧ F dd = some (.xd fv) ∧ fv.map (·.1) = x.ks ∧ RepL M F (fv.map (·.2)) x.vs)
theorem XOk.same {M : Md} {F F' : Hp} {x : Xn} {cl : Value} {d : Option Addr} (h : XOk M F x cl d) (s : Same F F') : XOk M F' x cl d := by
  obtain ⟨C, h1, h2, h3⟩ := h
  refine ⟨C, h1, h2, ?_⟩
  rcases h3 with h3 | ⟨dd, fv, h3, h4, h5, h6⟩
  · exact .inl h3
  · exact .inr ⟨dd, fv, h3, s _ _ h4, h5, h6.same s⟩
structure Rel (M : Md) (c : Ct) (F H : Hp) (σ : St) (env : En) : Prop where
  sub : Same F H
  len : env.length = σ.length
  fz : ∀ (i : Nat) (d : D), env[i]? = some (some (.fz d)) → ∃ v, σ[i]? = some (some v) ∧ Rep M F v d
  ow : ∀ (i : Nat) (o : O), env[i]? = some (some (.ow o)) → ∃ p, σ[i]? = some (some (.ref p)) ∧ F p = none ∧ ORep M F H p o
  ex : ∀ (i : Nat) (a : Addr) (C : Str) (ks : List Str) (vs : List D), env[i]? = some (some (.ex a C ks vs)) → σ[i]? = some (some (.ref a)) ∧ ∃ cl d, c.xc a cl d ∧ XOk M F ⟨C, ks, vs⟩ cl d
  sep : ∀ (i j : Nat) (o u : O) (b : Addr), env[i]? = some (some (.ow o)) → env[j]? = some (some (.ow u)) → (∃ p, σ[i]? = some (some (.ref p)) ∧ Has p o b) → (∃ p, σ[j]? = some (some (.ref p)) ∧ Has p u b) → i = j
  pin : ∀ i : Nat, i ∈ c.pn → σ[i]? = c.σ₀[i]?
  old : ∀ b u, c.h₀ b = some u → ∃ u', H b = some u'
  fr : ∀ (i : Nat) (o : O) (p : Addr), env[i]? = some (some (.ow o)) → i ∉ c.pn → σ[i]? = some (some (.ref p)) → c.h₀ p = none
  frN : ∀ (i : Nat) (o : O) (b : Addr), env[i]? = some (some (.ow o)) → b ∈ o.inn → c.hN b = none ∧ c.h₀ b = none
  oldN : ∀ b u, c.hN b = some u → ∃ u', H b = some u'
/-- from (F, H) to (F', H'): only what A holds has changed or was frozen; A' is A or new -/
structure Evo (A A' : Addr → Prop) (F H F' H' : Hp) : Prop where
  fs : Same F F'
  fn : ∀ b o, F' b = some o → F b = some o ∨ H b = none ∨ A b
  hk : ∀ b o, H b = some o → ¬ A b → H' b = some o
  ht : ∀ b o, H b = some o → ∃ u, H' b = some u
  aa : ∀ b, A' b → A b ∨ H b = none
theorem Evo.refl {A : Addr → Prop} {F H : Hp} : Evo A A F H F H := ⟨Same.refl _, fun _ _ h => .inl h, fun _ _ h _ => h, fun _ o h => ⟨o, h⟩, fun _ h => .inl h⟩
theorem Evo.sub {A A' : Addr → Prop} {F H : Hp} (h : ∀ b, A' b → A b) : Evo A A' F H F H := ⟨Same.refl _, fun _ _ h => .inl h, fun _ _ h _ => h, fun _ o h => ⟨o, h⟩, fun b q => .inl (h b q)⟩
theorem Evo.trans {A A' A'' : Addr → Prop} {F H F' H' F'' H'' : Hp} (a : Evo A A' F H F' H') (b : Evo A' A'' F' H' F'' H'') : Evo A A'' F H F'' H'' := by
  have key : ∀ c, H' c = none → H c = none := fun c e => by
    cases q : H c with
    | none => rfl
    | some o => obtain ⟨u, hu⟩ := a.ht c o q; rw [hu] at e; cases e
  refine ⟨a.fs.trans b.fs, fun c o h => ?_, fun c o h n => ?_, fun c o h => ?_, fun c h => ?_⟩
  · rcases b.fn c o h with h | h | h
    · exact a.fn c o h
    · exact .inr (.inl (key c h))
    · rcases a.aa c h with h | h
      · exact .inr (.inr h)
      · exact .inr (.inl h)
  · refine b.hk c o (a.hk c o h n) fun z => ?_
    rcases a.aa c z with z | z
    · exact n z
    · rw [h] at z; cases z
  · obtain ⟨u, hu⟩ := a.ht c o h
    exact b.ht c u hu
  · rcases b.aa c h with h | h
    · exact a.aa c h
    · exact .inr (key c h)
theorem Evo.noneOf {A A' : Addr → Prop} {F H F' H' : Hp} (a : Evo A A' F H F' H') {c : Addr} (e : H' c = none) : H c = none := by
  cases q : H c with
  | none => rfl
  | some o => obtain ⟨u, hu⟩ := a.ht c o q; rw [hu] at e; cases e
/-- what is tracked, owned by none and not frozen stays so -/
theorem Evo.keepTemp {A A' : Addr → Prop} {F H F' H' : Hp} (a : Evo A A' F H F' H') {p : Addr} {u : HO} (h : H p = some u) (hf : F p = none) (hA : ¬ A p) : H' p = some u ∧ F' p = none ∧ ¬ A' p := by
  refine ⟨a.hk p u h hA, ?_, fun z => ?_⟩
  · cases q : F' p with
    | none => rfl
    | some o =>
      rcases a.fn p o q with z | z | z
      · rw [hf] at z; cases z
      · rw [h] at z; cases z
      · exact absurd z hA
  · rcases a.aa p z with z | z
    · exact hA z
    · rw [h] at z; cases z
/-- no owner at all touched -/
abbrev Nob : Addr → Prop := fun _ => False
theorem Evo.nob {A : Addr → Prop} {F H F' H' : Hp} (a : Evo Nob Nob F H F' H') : Evo A A F H F' H' :=
  ⟨a.fs, fun b o h => by rcases a.fn b o h with h | h | h; exact .inl h; exact .inr (.inl h); exact h.elim, fun b o h _ => a.hk b o h (fun z => z), a.ht, fun _ h => .inl h⟩
/-- a new frozen object -/
theorem Evo.newF {F H : Hp} {p : Addr} {o : HO} (hp : H p = .none) (hF : F p = .none) : Evo Nob Nob F H (upd F p o) (upd H p o) := by
  refine ⟨same_upd hF, fun b u h => ?_, fun b u h _ => ?_, fun b u h => ?_, fun _ h => h.elim⟩
  · by_cases hb : b = p
    · subst hb; exact .inr (.inl hp)
    · rw [upd_ne hb] at h; exact .inl h
  · rw [upd_ne (ne_of_none h hp)]; exact h
  · exact ⟨u, by rw [upd_ne (ne_of_none h hp)]; exact h⟩
/-- a new owned object -/
theorem Evo.newO {F H : Hp} {p : Addr} {o : HO} (hp : H p = .none) : Evo Nob Nob F H F (upd H p o) := by
  refine ⟨Same.refl _, fun b u h => .inl h, fun b u h _ => ?_, fun b u h => ?_, fun _ h => h.elim⟩
  · rw [upd_ne (ne_of_none h hp)]; exact h
  · exact ⟨u, by rw [upd_ne (ne_of_none h hp)]; exact h⟩
theorem same_newO {F H : Hp} {p : Addr} {o : HO} (s : Same F H) (hp : H p = none) : Same F (upd H p o) := fun b u h => by
  have := s _ _ h
  rw [upd_ne (ne_of_none this hp)]; exact this
theorem same_newF {F H : Hp} {p : Addr} {o : HO} (s : Same F H) (hp : H p = none) : Same (upd F p o) (upd H p o) := fun b u h => by
  by_cases hb : b = p
  · subst hb; rw [upd_same] at h ⊢; exact h
  · rw [upd_ne hb] at h ⊢; exact s _ _ h
section
variable {M : Md} {c : Ct} {F H F' H' : Hp} {σ : St} {env env' : En}
theorem Rel.new (R : Rel M c F H σ env) {p : Addr} (h : H p = none) : c.h₀ p = none := by
  cases q : c.h₀ p with
  | none => rfl
  | some u => obtain ⟨u', hu⟩ := R.old p u q; rw [h] at hu; cases hu
theorem Rel.newN (R : Rel M c F H σ env) {p : Addr} (h : H p = none) : c.hN p = none := by
  cases q : c.hN p with
  | none => rfl
  | some u => obtain ⟨u', hu⟩ := R.oldN p u q; rw [h] at hu; cases hu
theorem Rel.own_some (R : Rel M c F H σ env) {b : Addr} (h : Own σ env b) : ∃ u, H b = some u := by
  obtain ⟨i, o, h1, p, h2, h5⟩ := h
  obtain ⟨q, h3, h4, h6⟩ := R.ow i o h1
  rw [h2] at h3; cases h3; exact (h6.has h4 b h5).2
/-- a step that touches no owner -/
theorem Rel.evo (R : Rel M c F H σ env) (e : Evo Nob Nob F H F' H') (s : Same F' H') : Rel M c F' H' σ env := by
  refine ⟨s, R.len, fun i d h => ?_, fun i o h => ?_, fun i a C ks vs h => (R.ex i a C ks vs h).imp id fun ⟨cl, d, h2, h3⟩ => ⟨cl, d, h2, h3.same e.fs⟩, R.sep, R.pin, fun b u h => ?_, R.fr, R.frN, fun b u h => ?_⟩
  · obtain ⟨v, h1, h2⟩ := R.fz i d h
    exact ⟨v, h1, h2.same e.fs⟩
  · obtain ⟨p, h1, h2, h3⟩ := R.ow i o h
    have k : ∀ b, Has p o b → H' b = H b ∧ F' b = none := fun b hb => by
      obtain ⟨h4, u, hu⟩ := h3.has h2 b hb
      obtain ⟨q1, q2, _⟩ := e.keepTemp hu h4 (fun z => z)
      exact ⟨q1.trans hu.symm, q2⟩
    exact ⟨p, h1, (k p .self).2, h3.same e.fs (k p .self).1 fun b hb => k b (.inr hb)⟩
  · obtain ⟨u', hu⟩ := R.old b u h
    exact e.ht b u' hu
  · obtain ⟨u', hu⟩ := R.oldN b u h
    exact e.ht b u' hu
/-- more is frozen, nothing of it owned -/
theorem Rel.frzTo (R : Rel M c F H σ env) {F' : Hp} {S : Addr → Prop} (f : FrzTo F H F' S) (hn : ∀ b, S b → ¬ Own σ env b) : Rel M c F' H σ env := by
  refine ⟨f.sub, R.len, fun i d h => ?_, fun i o h => ?_, fun i a C ks vs h => (R.ex i a C ks vs h).imp id fun ⟨cl, d, h2, h3⟩ => ⟨cl, d, h2, h3.same f.fs⟩, R.sep, R.pin, R.old, R.fr, R.frN, R.oldN⟩
  · obtain ⟨v, h1, h2⟩ := R.fz i d h
    exact ⟨v, h1, h2.same f.fs⟩
  · obtain ⟨p, h1, h2, h3⟩ := R.ow i o h
    have k : ∀ b, Has p o b → F' b = none := fun b hb => by
      rw [f.ne b fun z => hn b z ⟨i, o, h, p, h1, hb⟩]
      exact (h3.has h2 b hb).1
    exact ⟨p, h1, k p .self, h3.same f.fs rfl fun b hb => ⟨rfl, k b (.inr hb)⟩⟩
/-- slot i's object is frozen -/
theorem Rel.freeze (R : Rel M c F H σ env) {i : Nat} {o : O} (h : env[i]? = some (some (.ow o))) : ∃ p F', σ[i]? = some (some (.ref p)) ∧ Rel M c F' H σ (env.set i (some (.fz o.d))) ∧ Rep M F' (.ref p) o.d ∧
    Evo (Own σ env) (Own σ (env.set i (some (.fz o.d)))) F H F' H ∧ (∀ b, F' b = none → F b = none) ∧ (∀ b, ¬ Has p o b → F' b = F b) := by
  obtain ⟨p, h1, h2, h3⟩ := R.ow i o h
  obtain ⟨F', f, h5⟩ := h3.freeze R.sub h2
  have hi : i < env.length := (List.getElem?_eq_some_iff.mp h).1
  have key : ∀ {j : Nat} {v : O}, (env.set i (some (.fz o.d)))[j]? = some (some (.ow v)) → i ≠ j ∧ env[j]? = some (some (.ow v)) := fun {j v} hj => by
    by_cases e : i = j
    · subst e
      rw [List.getElem?_set_self hi] at hj
      cases hj
    · rw [List.getElem?_set_ne e] at hj
      exact ⟨e, hj⟩
  refine ⟨p, F', h1, ⟨f.sub, by rw [List.length_set]; exact R.len, fun j d hj => ?_, fun j v hj => ?_, fun j a C ks vs hj => ?_, fun j k v w q hj hk => R.sep j k v w q (key hj).2 (key hk).2, R.pin, R.old, fun j v q hj hn hq => R.fr j v q (key hj).2 hn hq, fun j v q hj hq => R.frN j v q (key hj).2 hq, R.oldN⟩, h5, ⟨f.fs, fun b v hb => ?_, fun b v hb _ => hb, fun b v hb => ⟨v, hb⟩, fun b ⟨j, v, h6, h7⟩ => .inl ⟨j, v, (key h6).2, h7⟩⟩, fun b hb => ?_, f.ne⟩
  · by_cases e : i = j
    · subst e
      rw [List.getElem?_set_self hi] at hj
      cases hj
      exact ⟨_, h1, h5⟩
    · rw [List.getElem?_set_ne e] at hj
      obtain ⟨w, h6, h7⟩ := R.fz j d hj
      exact ⟨w, h6, h7.same f.fs⟩
  · obtain ⟨e, hj⟩ := key hj
    obtain ⟨q, h6, h7, h8⟩ := R.ow j v hj
    have k : ∀ b, Has q v b → F' b = none := fun b hb => by
      rw [f.ne b fun z => e (R.sep i j o v b h hj ⟨p, h1, z⟩ ⟨q, h6, hb⟩)]
      exact (h8.has h7 b hb).1
    exact ⟨q, h6, k q .self, h8.same f.fs rfl fun b hb => ⟨rfl, k b (.inr hb)⟩⟩
  · by_cases e : i = j
    · subst e
      rw [List.getElem?_set_self hi] at hj
      cases hj
    · rw [List.getElem?_set_ne e] at hj
      exact (R.ex j a C ks vs hj).imp id fun ⟨cl, d, h2, h3⟩ => ⟨cl, d, h2, h3.same f.fs⟩
  · rcases f.fn b v hb with z | z
    · exact .inl z
    · exact .inr (.inr ⟨i, o, h, p, h1, z⟩)
  · cases q : F b with
    | none => rfl
    | some v => rw [f.fs _ _ q] at hb; cases hb
/-- a new value for slot i, in both -/
theorem Rel.setFz (R : Rel M c F H σ env) {i : Nat} {v : V} {d : D} (hi : i ∉ c.pn) (hl : i < σ.length) (r : Rep M F v d) : Rel M c F H (σ.set i (some v)) (env.set i (some (.fz d))) := by
  have hl' : i < env.length := by rw [R.len]; exact hl
  refine ⟨R.sub, by rw [List.length_set, List.length_set]; exact R.len, fun j e hj => ?_, fun j o hj => ?_, fun j a C ks vs hj => ?_, fun j k o u p hj hk => ?_, fun j hj => ?_, R.old, fun j o p hj hn hp => ?_, fun j o b hj hb => ?_, R.oldN⟩
  · by_cases e : i = j
    · subst e
      rw [List.getElem?_set_self hl'] at hj
      cases hj
      exact ⟨v, List.getElem?_set_self hl, r⟩
    · rw [List.getElem?_set_ne e] at hj ⊢
      exact R.fz j _ hj
  · by_cases e : i = j
    · subst e
      rw [List.getElem?_set_self hl'] at hj
      cases hj
    · rw [List.getElem?_set_ne e] at hj ⊢
      exact R.ow j _ hj
  · by_cases e : i = j
    · subst e
      rw [List.getElem?_set_self hl'] at hj
      cases hj
    · rw [List.getElem?_set_ne e] at hj ⊢
      exact R.ex j a C ks vs hj
  · by_cases e : i = j
    · subst e
      rw [List.getElem?_set_self hl'] at hj
      cases hj
    · by_cases e2 : i = k
      · subst e2
        rw [List.getElem?_set_self hl'] at hk
        cases hk
      · rw [List.getElem?_set_ne e] at hj ⊢
        rw [List.getElem?_set_ne e2] at hk ⊢
        exact R.sep j k o u p hj hk
  · have e : i ≠ j := fun z => hi (z ▸ hj)
    rw [List.getElem?_set_ne e]
    exact R.pin j hj
  · by_cases e : i = j
    · subst e
      rw [List.getElem?_set_self hl'] at hj
      cases hj
    · rw [List.getElem?_set_ne e] at hj hp
      exact R.fr j o p hj hn hp
  · by_cases e : i = j
    · subst e
      rw [List.getElem?_set_self hl'] at hj
      cases hj
    · rw [List.getElem?_set_ne e] at hj
      exact R.frN j o b hj hb
theorem own_setFz {i : Nat} {v : V} {d : D} : ∀ b, Own (σ.set i (some v)) (env.set i (some (.fz d))) b → Own σ env b := fun b ⟨j, o, h1, h2⟩ => by
  by_cases e : i = j
  · subst e
    by_cases hl : i < env.length
    · rw [List.getElem?_set_self hl] at h1; cases h1
    · rw [List.getElem?_eq_none (by rw [List.length_set]; omega)] at h1; cases h1
  · rw [List.getElem?_set_ne e] at h1 h2
    exact ⟨j, o, h1, h2⟩
/-- slot i gets an owned object that none owns -/
theorem Rel.setOw (R : Rel M c F H σ env) {i : Nat} {p : Addr} {o : O} (hi : i ∉ c.pn) (hl : i < σ.length) (hp : F p = none) (r : ORep M F H p o) (hn : ∀ b, Has p o b → ¬ Own σ env b) (h0 : c.h₀ p = none) (hN : ∀ b ∈ o.inn, c.hN b = none ∧ c.h₀ b = none) : Rel M c F H (σ.set i (some (.ref p))) (env.set i (some (.ow o))) := by
  have hl' : i < env.length := by rw [R.len]; exact hl
  refine ⟨R.sub, by rw [List.length_set, List.length_set]; exact R.len, fun j e hj => ?_, fun j o' hj => ?_, fun j a C ks vs hj => ?_, fun j k o' u q hj hk hj' hk' => ?_, fun j hj => ?_, R.old, fun j o' q hj hn' hq => ?_, fun j o' b hj hb => ?_, R.oldN⟩
  · by_cases e : i = j
    · subst e
      rw [List.getElem?_set_self hl'] at hj
      cases hj
    · rw [List.getElem?_set_ne e] at hj ⊢
      exact R.fz j _ hj
  · by_cases e : i = j
    · subst e
      rw [List.getElem?_set_self hl'] at hj
      cases hj
      exact ⟨p, List.getElem?_set_self hl, hp, r⟩
    · rw [List.getElem?_set_ne e] at hj ⊢
      exact R.ow j _ hj
  · by_cases e : i = j
    · subst e
      rw [List.getElem?_set_self hl'] at hj
      cases hj
    · rw [List.getElem?_set_ne e] at hj ⊢
      exact R.ex j a C ks vs hj
  · by_cases e : i = j
    · subst e
      by_cases e2 : i = k
      · exact e2
      · rw [List.getElem?_set_ne e2] at hk hk'
        rw [List.getElem?_set_self hl] at hj'
        rw [List.getElem?_set_self hl'] at hj
        cases hj
        obtain ⟨p', hj1, hj2⟩ := hj'
        cases hj1
        exact absurd ⟨k, u, hk, hk'⟩ (hn _ hj2)
    · by_cases e2 : i = k
      · subst e2
        rw [List.getElem?_set_ne e] at hj hj'
        rw [List.getElem?_set_self hl] at hk'
        rw [List.getElem?_set_self hl'] at hk
        cases hk
        obtain ⟨p', hk1, hk2⟩ := hk'
        cases hk1
        exact absurd ⟨j, o', hj, hj'⟩ (hn _ hk2)
      · rw [List.getElem?_set_ne e] at hj hj'
        rw [List.getElem?_set_ne e2] at hk hk'
        exact R.sep j k o' u q hj hk hj' hk'
  · have e : i ≠ j := fun z => hi (z ▸ hj)
    rw [List.getElem?_set_ne e]
    exact R.pin j hj
  · by_cases e : i = j
    · subst e
      rw [List.getElem?_set_self hl] at hq
      cases hq
      exact h0
    · rw [List.getElem?_set_ne e] at hj hq
      exact R.fr j o' q hj hn' hq
  · by_cases e : i = j
    · subst e
      rw [List.getElem?_set_self hl'] at hj
      cases hj
      exact hN b hb
    · rw [List.getElem?_set_ne e] at hj
      exact R.frN j o' b hj hb
theorem own_setOw {i : Nat} {p : Addr} {o : O} : ∀ b, Own (σ.set i (some (.ref p))) (env.set i (some (.ow o))) b → Own σ env b ∨ Has p o b := fun b ⟨j, o', h1, h2⟩ => by
  by_cases e : i = j
  · subst e
    obtain ⟨p', h2, h3⟩ := h2
    by_cases hl : i < σ.length
    · rw [List.getElem?_set_self hl] at h2
      cases h2
      by_cases hl' : i < env.length
      · rw [List.getElem?_set_self hl'] at h1
        cases h1
        exact .inr h3
      · rw [List.getElem?_eq_none (by rw [List.length_set]; omega)] at h1; cases h1
    · rw [List.getElem?_eq_none (by rw [List.length_set]; omega)] at h2; cases h2
  · rw [List.getElem?_set_ne e] at h1 h2
    exact .inl ⟨j, o', h1, h2⟩
/-- slot i forgotten by the environment -/
theorem Rel.forget (R : Rel M c F H σ env) (i : Nat) : Rel M c F H σ (env.set i none) := by
  have key : ∀ {j : Nat} {v : Val}, (env.set i none)[j]? = some (some v) → env[j]? = some (some v) := fun {j v} h => by
    by_cases e : i = j
    · subst e
      by_cases hl : i < env.length
      · rw [List.getElem?_set_self hl] at h; cases h
      · rw [List.getElem?_eq_none (by rw [List.length_set]; omega)] at h; cases h
    · rw [List.getElem?_set_ne e] at h; exact h
  exact ⟨R.sub, by rw [List.length_set]; exact R.len, fun j d h => R.fz j d (key h), fun j o h => R.ow j o (key h), fun j a C ks vs h => R.ex j a C ks vs (key h), fun j k o u p h1 h2 => R.sep j k o u p (key h1) (key h2), R.pin, R.old, fun j o p h => R.fr j o p (key h), fun j o b h => R.frN j o b (key h), R.oldN⟩
theorem own_forget {i : Nat} : ∀ b, Own σ (env.set i none) b → Own σ env b := fun b ⟨j, o, h1, h2⟩ => by
  by_cases e : i = j
  · subst e
    by_cases hl : i < env.length
    · rw [List.getElem?_set_self hl] at h1; cases h1
    · rw [List.getElem?_eq_none (by rw [List.length_set]; omega)] at h1; cases h1
  · rw [List.getElem?_set_ne e] at h1
    exact ⟨j, o, h1, h2⟩
/-- slot i's owned object is written: from o to o', at p or within -/
theorem Rel.writeG (R : Rel M c F H σ env) {i : Nat} {p b0 : Addr} {o o' : O} {u : HO} (h : env[i]? = some (some (.ow o))) (hp : σ[i]? = some (some (.ref p))) (hb0 : Has p o b0) (hin : ∀ b ∈ o'.inn, b ∈ o.inn) (r : ORep M F (upd H b0 u) p o') :
    Rel M c F (upd H b0 u) σ (env.set i (some (.ow o'))) ∧ Evo (Own σ env) (Own σ (env.set i (some (.ow o')))) F H F (upd H b0 u) := by
  have hi : i < env.length := (List.getElem?_eq_some_iff.mp h).1
  obtain ⟨q, h1, h2, h3⟩ := R.ow i o h
  rw [hp] at h1; cases h1
  have hb0F : F b0 = none := (h3.has h2 b0 hb0).1
  have hs : Same F (upd H b0 u) := fun b v hb => by
    have hb' : b ≠ b0 := fun z => by rw [z, hb0F] at hb; cases hb
    rw [upd_ne hb']; exact R.sub _ _ hb
  have hhas : ∀ {q b}, Has q o' b → Has q o b := fun {q b} z => z.imp id fun z => hin _ z
  have back : ∀ {j : Nat} {v : O}, (env.set i (some (.ow o')))[j]? = some (some (.ow v)) → ∃ v', env[j]? = some (some (.ow v')) ∧ ∀ q b, Has q v b → Has q v' b := fun {j v} hj => by
    by_cases e : i = j
    · subst e
      rw [List.getElem?_set_self hi] at hj
      cases hj
      exact ⟨o, h, fun q b z => hhas z⟩
    · rw [List.getElem?_set_ne e] at hj; exact ⟨v, hj, fun _ _ z => z⟩
  have own : ∀ b, Own σ (env.set i (some (.ow o'))) b → Own σ env b := fun b ⟨j, v, h6, p', h7, h8⟩ => by
    obtain ⟨v', h9, h10⟩ := back h6
    exact ⟨j, v', h9, p', h7, h10 _ _ h8⟩
  refine ⟨⟨hs, by rw [List.length_set]; exact R.len, fun j d hj => ?_, fun j v hj => ?_, fun j a C ks vs hj => ?_, fun j k v w q hj hk ⟨p1, hj1, hj2⟩ ⟨p2, hk1, hk2⟩ => ?_, R.pin, fun b v hb => ?_, fun j v q hj hn hq => ?_, fun j v b hj hb => ?_, fun b v hb => ?_⟩, ⟨Same.refl _, fun b v hb => .inl hb, fun b v hb hn => ?_, fun b v hb => ?_, fun b hb => .inl (own b hb)⟩⟩
  · by_cases e : i = j
    · subst e
      rw [List.getElem?_set_self hi] at hj
      cases hj
    · rw [List.getElem?_set_ne e] at hj
      exact R.fz j d hj
  · by_cases e : i = j
    · subst e
      rw [List.getElem?_set_self hi] at hj
      cases hj
      exact ⟨p, hp, h2, r⟩
    · rw [List.getElem?_set_ne e] at hj
      obtain ⟨q, h6, h7, h8⟩ := R.ow j v hj
      have hq : ∀ b, Has q v b → b ≠ b0 := fun b hb z => e (R.sep i j _ _ b0 h hj ⟨p, hp, hb0⟩ ⟨q, h6, z ▸ hb⟩)
      exact ⟨q, h6, h7, h8.same (Same.refl _) (upd_ne (hq q .self)) fun b hb => ⟨upd_ne (hq b (.inr hb)), (h8.inner b hb).1⟩⟩
  · by_cases e : i = j
    · subst e
      rw [List.getElem?_set_self hi] at hj
      cases hj
    · rw [List.getElem?_set_ne e] at hj
      exact R.ex j a C ks vs hj
  · obtain ⟨v', hj3, hj4⟩ := back hj
    obtain ⟨w', hk3, hk4⟩ := back hk
    exact R.sep j k v' w' q hj3 hk3 ⟨p1, hj1, hj4 _ _ hj2⟩ ⟨p2, hk1, hk4 _ _ hk2⟩
  · obtain ⟨u', hu⟩ := R.old b v hb
    by_cases e : b = b0
    · exact ⟨u, by rw [e]; exact upd_same⟩
    · exact ⟨u', by rw [upd_ne e]; exact hu⟩
  · obtain ⟨v', hj3, hj4⟩ := back hj
    exact R.fr j v' q hj3 hn hq
  · by_cases e : i = j
    · subst e
      rw [List.getElem?_set_self hi] at hj
      cases hj
      exact R.frN i o b h (hin b hb)
    · rw [List.getElem?_set_ne e] at hj
      exact R.frN j v b hj hb
  · obtain ⟨u', hu⟩ := R.oldN b v hb
    by_cases e : b = b0
    · exact ⟨u, by rw [e]; exact upd_same⟩
    · exact ⟨u', by rw [upd_ne e]; exact hu⟩
  · have : b ≠ b0 := fun z => hn ⟨i, o, h, p, hp, z ▸ hb0⟩
    rw [upd_ne this]; exact hb
  · by_cases e : b = b0
    · subst e; exact ⟨u, upd_same⟩
    · exact ⟨v, by rw [upd_ne e]; exact hb⟩
theorem Rel.write (R : Rel M c F H σ env) {i : Nat} {p : Addr} {o o' : O} {u : HO} (h : env[i]? = some (some (.ow o))) (hp : σ[i]? = some (some (.ref p))) (r : ORep M F (upd H p u) p o') (hin : o'.inn = [] := by rfl) :
    Rel M c F (upd H p u) σ (env.set i (some (.ow o'))) ∧ Evo (Own σ env) (Own σ (env.set i (some (.ow o')))) F H F (upd H p u) := R.writeG h hp .self (fun b hb => by rw [hin] at hb; cases hb) r
/-- a temp that none owns is written -/
theorem Rel.tempW (R : Rel M c F H σ env) {D : Addr} {u : HO} (hF : F D = none) (hn : ¬ Own σ env D) : Rel M c F (upd H D u) σ env := by
  have ht : ∀ b, (∃ u', H b = some u') → ∃ u', upd H D u b = some u' := fun b ⟨u', hu⟩ => by
    by_cases hbd : b = D
    · exact ⟨_, by rw [hbd]; exact upd_same⟩
    · exact ⟨u', by rw [upd_ne hbd]; exact hu⟩
  refine ⟨fun b o hb => ?_, R.len, R.fz, fun j o hj => ?_, R.ex, R.sep, R.pin, fun b v hb => ht b (R.old b v hb), R.fr, R.frN, fun b v hb => ht b (R.oldN b v hb)⟩
  · have : b ≠ D := fun z => by rw [z, hF] at hb; cases hb
    rw [upd_ne this]; exact R.sub b o hb
  · obtain ⟨p, h1, h2, h3⟩ := R.ow j o hj
    have k : ∀ b, Has p o b → b ≠ D := fun b hb z => hn ⟨j, o, hj, p, h1, z ▸ hb⟩
    exact ⟨p, h1, h2, h3.same (Same.refl _) (upd_ne (k p .self)) fun b hb => ⟨upd_ne (k b (.inr hb)), (h3.inner b hb).1⟩⟩
end
end LV
namespace LV
open PySem PySem.Spec L2
abbrev mdX (X : Cx) : Md := ⟨X.K, X.mg, X.w⟩
def Vw (M : Md) (F H : Hp) (v : V) : D → Prop
  | .tup ds => ∃ a xs, v = .ref a ∧ SqT M.K F a xs ∧ RepL M F xs ds
  | .lst ds => ∃ a xs, v = .ref a ∧ H a = some (.lst xs) ∧ RepL M F xs ds
  | .scr ns => ∃ a, v = .ref a ∧ SqL M.K H a (ns.map V.int)
  | .dct ks ds => ∃ a, v = .ref a ∧ ORep M F H a (.dct ks ds)
  | .ins C ks ds => ∃ a, v = .ref a ∧ ORep M F H a (.ins C ks ds)
  | .cls C => ∃ a, v = .ref a ∧ M.mg C = some (.ref a)
  | .ptr a => v = .ref a
  | .exn C ks ds => ∃ a c, v = .ref a ∧ M.mg C = some (.ref c) ∧ ((∃ dx fv, F a = some (exo a c (some dx)) ∧ F dx = some (exd dx fv) ∧ fv.map (·.1) = ks ∧ RepL M F (fv.map (·.2)) ds) ∨ (F a = some (exo a c none) ∧ ks = [] ∧ ds = []))
  | .tpn ds => ∃ a o xs, v = .ref a ∧ F a = some (.frz o (.tup xs)) ∧ o.dict = none ∧ RepL M F xs ds
  | .non => v = .non
  | .bl b => v = .bl b
  | .int i => v = .int i
  | .str s => v = .str s
theorem Rep.vw {M : Md} {F H : Hp} {v : V} {d : D} (s : Same F H) (r : Rep M F v d) : Vw M F H v d := by
  cases r with
  | non => rfl
  | bl b => rfl
  | int i => rfl
  | str x => rfl
  | tup h r => exact ⟨_, _, rfl, h, r⟩
  | lst h r => exact ⟨_, _, rfl, s _ _ h, r⟩
  | scr h => exact ⟨_, rfl, s.seq h⟩
  | cls g => exact ⟨_, rfl, g⟩
  | ptr => rfl
  | tpn h n r => exact ⟨_, _, _, rfl, h, n, r⟩
  | dK h e r => subst e; exact ⟨_, rfl, .inl ⟨_, s _ _ h, rfl, r⟩⟩
  | dN h e1 e2 r1 e3 r2 => exact ⟨_, rfl, .inr ⟨_, _, s _ _ h, e1, e2, r1, e3, r2⟩⟩
  | exn g h1 h2 e r => subst e; exact ⟨_, _, rfl, g, .inl ⟨_, _, h1, h2, rfl, r⟩⟩
  | ex0 g h => exact ⟨_, _, rfl, g, .inr ⟨h, rfl, rfl⟩⟩
  | ins g h e r => subst e; exact ⟨_, rfl, _, _, _, g, s _ _ h, rfl, r⟩
theorem ORep.vw {M : Md} {F H : Hp} {p : Addr} {o : O} (hn : ∀ xs, o ≠ .nst xs) (r : ORep M F H p o) : Vw M F H (.ref p) o.d := by
  cases o with
  | nst xs => exact absurd rfl (hn xs)
  | lst ds => obtain ⟨xs, h, r⟩ := r; exact ⟨_, _, rfl, h, r⟩
  | dct ks ds => exact ⟨_, rfl, r⟩
  | ins C ks ds => exact ⟨_, rfl, r⟩
abbrev XW := Xn → En → Prop
abbrev EW := En → (Rv → En → Prop) → XW → Prop
structure Mono (w : EW) : Prop where
  mo : ∀ {env : En} {Q Q' : Rv → En → Prop} {E E' : XW}, (∀ r e, Q r e → Q' r e) → (∀ x e, E x e → E' x e) → w env Q E → w env Q' E'
/-- v is r, of an expression that began at H0 -/
def RvOk (M : Md) (F H H0 : Hp) (σ : St) (env : En) (v : V) : Rv → Prop
  | .fz d => Rep M F v d
  | .ow o => ∃ p, v = .ref p ∧ F p = none ∧ ORep M F H p o ∧ (∀ b, Has p o b → ¬ Own σ env b) ∧ ∀ b, Has p o b → H0 b = none
  | .sl i => σ[i]? = some (some v) ∧ ∃ o, env[i]? = some (some (.ow o))
def EPost (M : Md) (c : Ct) (F H : Hp) (σ : St) (env : En) (Qv : VK) : Rv → En → Prop := fun r env' =>
  ∀ v F' H', Rel M c F' H' σ env' → Evo (Own σ env) (Own σ env') F H F' H' → RvOk M F' H' H σ env' v r → Qv v H'
def XPost (M : Md) (c : Ct) (W : WX) (F H : Hp) (σ : St) (env : En) : XW := fun x env' =>
  ∀ cl d F' H', Rel M c F' H' σ env' → Evo (Own σ env) (Own σ env') F H F' H' → XOk M F' x cl d → W cl d σ H'
/-- the reading of w -/
def ERd (M : Md) (c : Ct) (W : WX) (w : EW) : TE := fun σ H Qv => ∃ F env, Rel M c F H σ env ∧ w env (EPost M c F H σ env Qv) (XPost M c W F H σ env)
structure SE (X : Cx) (c : Ct) (W : WX) (e : Expr) (w : EW) : Prop where
  pe : PE X e (ERd (mdX X) c W w)
  mo : Mono w
theorem PE.imp {X : Cx} {e : Expr} {t t' : TE} (h : PE X e t) (i : ∀ σ H Q, t' σ H Q → t σ H Q) : PE X e t' := ⟨fun pins s σ H Q I q => h.run pins s σ H Q I (i σ H Q q)⟩
theorem PT.imp {X : Cx} {e : Expr} {t t' : TT} (h : PT X e t) (i : ∀ σ H Q, t' σ H Q → t σ H Q) : PT X e t' := ⟨fun pins s σ H Q I q => h.run pins s σ H Q I (i σ H Q q)⟩
theorem PA.imp {X : Cx} {e : List Expr} {t t' : TA} (h : PA X e t) (i : ∀ σ H Q, t' σ H Q → t σ H Q) : PA X e t' := ⟨fun pos pins s σ H Q I q => h.run pos pins s σ H Q I (i σ H Q q)⟩
theorem PS.imp {X : Cx} {e : Stmt} {t t' : TS} (h : PS X e t) (i : ∀ D σ H, t' D σ H → t D σ H) : PS X e t' := ⟨fun pins s σ H D I q => h.run pins s σ H D I (i D σ H q)⟩
theorem PSs.imp {X : Cx} {e : List Stmt} {t t' : TS} (h : PSs X e t) (i : ∀ D σ H, t' D σ H → t D σ H) : PSs X e t' := ⟨fun pins s σ H D I q => h.run pins s σ H D I (i D σ H q)⟩
section
variable {M : Md} {c : Ct} {W : WX} {F H F1 H1 : Hp} {σ : St} {env env1 : En}
/-- the wishes carried over a first step -/
theorem EPost.step (e : Evo (Own σ env) (Own σ env1) F H F1 H1) {Qv : VK} {r : Rv} {env2 : En} (h : EPost M c F H σ env Qv r env2) : EPost M c F1 H1 σ env1 Qv r env2 := fun v F' H' R' e' ok =>
  h v F' H' R' (e.trans e') (by
    cases r with
    | fz d => exact ok
    | ow o => obtain ⟨p, a1, a2, a3, a4, a5⟩ := ok; exact ⟨p, a1, a2, a3, a4, fun b hb => e.noneOf (a5 b hb)⟩
    | sl i => exact ok)
theorem XPost.step (e : Evo (Own σ env) (Own σ env1) F H F1 H1) {x : Xn} {env2 : En} (h : XPost M c W F H σ env x env2) : XPost M c W F1 H1 σ env1 x env2 := fun cl d F' H' R' e' ok => h cl d F' H' R' (e.trans e') ok
theorem hO {σ : St} {env : En} {p : Addr} {o : O} (h : ¬ Own σ env p) (hi : o.inn = [] := by rfl) : ∀ b, Has p o b → ¬ Own σ env b := has1 (P := fun b => ¬ Own σ env b) hi h
theorem hH {H : Hp} {p : Addr} {o : O} (h : H p = none) (hi : o.inn = [] := by rfl) : ∀ b, Has p o b → H b = none := has1 (P := fun b => H b = none) hi h
/-- a temp is frozen -/
theorem Evo.frzTo {A A' : Addr → Prop} {F H F' H' F2 : Hp} {S : Addr → Prop} (e : Evo A A' F H F' H') (f : FrzTo F' H' F2 S) (h0 : ∀ b, S b → H b = none) : Evo A A' F H F2 H' :=
  ⟨e.fs.trans f.fs, fun b o h => by
    rcases f.fn b o h with h | h
    · exact e.fn b o h
    · exact .inr (.inl (h0 b h)), e.hk, e.ht, e.aa⟩
theorem temp_freeze {F' H' : Hp} {env' : En} {v : V} {o : O} (R' : Rel M c F' H' σ env') (ev : Evo (Own σ env) (Own σ env') F H F' H') (ok : ∃ p, v = .ref p ∧ F' p = none ∧ ORep M F' H' p o ∧ (∀ b, Has p o b → ¬ Own σ env' b) ∧ ∀ b, Has p o b → H b = none) :
    ∃ F2, Rel M c F2 H' σ env' ∧ Evo (Own σ env) (Own σ env') F H F2 H' ∧ Rep M F2 v o.d := by
  obtain ⟨p, rfl, a2, a3, a4, a5⟩ := ok
  obtain ⟨F2, f, rp⟩ := a3.freeze R'.sub a2
  exact ⟨F2, R'.frzTo f a4, ev.frzTo f a5, rp⟩
end
/-- a temp made data -/
def Rv.frz : Rv → Rv
  | .ow o => .fz o.d
  | r => r
def wFz (w : EW) : EW := fun env Q E => w env (fun r e => Q r.frz e) E
theorem Mono.fz {w : EW} (m : Mono w) : Mono (wFz w) := ⟨fun hQ hE h => m.mo (fun r e q => hQ _ _ q) hE h⟩
section
variable {X : Cx} {c : Ct} {W : WX} {e a b : Expr} {w wa wb : EW}
theorem ERd.fz {M : Md} (m : Mono w) {σ : St} {H : Hp} {Q : VK} (h : ERd M c W (wFz w) σ H Q) : ERd M c W w σ H Q := by
  obtain ⟨F, env, R, h⟩ := h
  refine ⟨F, env, R, m.mo (fun r e q => ?_) (fun _ _ q => q) h⟩
  intro v F' H' R' ev ok
  cases r with
  | fz d => exact q v F' H' R' ev ok
  | sl i => exact q v F' H' R' ev ok
  | ow o =>
    obtain ⟨F2, R2, ev2, rp⟩ := temp_freeze R' ev ok
    exact q _ F2 H' R2 ev2 rp
theorem SE.fz (h : SE X c W e w) : SE X c W e (wFz w) := ⟨PE.imp h.pe fun σ H Q q => ERd.fz h.mo q, h.mo.fz⟩
/-- an operand's value: data or a slot's object -/
def look (env : En) : Rv → Option D
  | .fz d => some d
  | .ow o => some o.d
  | .sl i => match env[i]? with
    | some (some (.ow (.nst _))) => none
    | some (some (.ow o)) => some o.d
    | some (some (.fz d)) => some d
    | _ => none
/-- what an operand is, later on -/
def OpOk (M : Md) (F : Hp) (σ : St) (v : V) : Rv → Prop
  | .fz d => Rep M F v d
  | .ow _ => False
  | .sl i => σ[i]? = some (some v)
theorem OpOk.same {M : Md} {F F' : Hp} {σ : St} {v : V} {r : Rv} (s : Same F F') (h : OpOk M F σ v r) : OpOk M F' σ v r := by
  cases r with
  | fz d => exact Rep.same s h
  | ow o => exact h
  | sl i => exact h
theorem OpOk.vw {M : Md} {F H : Hp} {σ : St} {env : En} {v : V} {r : Rv} {d : D} (R : Rel M c F H σ env) (h : OpOk M F σ v r) (l : look env r = some d) : Vw M F H v d := by
  cases r with
  | fz e => cases l; exact Rep.vw R.sub h
  | ow o => exact h.elim
  | sl i =>
    have h' : σ[i]? = some (some v) := h
    cases he : env[i]? with
    | none => simp only [look, he] at l; cases l
    | some x =>
      cases x with
      | none => simp only [look, he] at l; cases l
      | some y =>
        cases y with
        | fz e =>
          simp only [look, he] at l
          cases l
          obtain ⟨u, h1, h2⟩ := R.fz i _ he
          rw [h'] at h1; cases h1
          exact Rep.vw R.sub h2
        | ow o =>
          obtain ⟨p, h1, _, h3⟩ := R.ow i o he
          rw [h'] at h1; cases h1
          cases o with
          | nst xs => simp only [look, he] at l; cases l
          | _ =>
            simp only [look, he] at l
            cases l
            exact h3.vw (fun _ z => nomatch z)
        | ex _ _ _ _ => simp only [look, he] at l; cases l
/-- a primitive's result, from (F, H) -/
def NOk (M : Md) (F' H' H : Hp) (v : V) : Rv → Prop
  | .fz d => Rep M F' v d
  | .ow o => ∃ p, v = .ref p ∧ F' p = none ∧ ORep M F' H' p o ∧ ∀ b, Has p o b → H b = none
  | .sl _ => False
def NPost (M : Md) (F H : Hp) (Qv : VK) : Rv → Prop := fun r => ∀ v F' H', Same F' H' → Evo Nob Nob F H F' H' → NOk M F' H' H v r → Qv v H'
theorem NPost.of {M : Md} {c : Ct} {F H : Hp} {σ : St} {env : En} {Qv : VK} {r : Rv} (R : Rel M c F H σ env) (h : EPost M c F H σ env Qv r env) : NPost M F H Qv r := fun v F' H' s e ok => by
  have R' := R.evo e s
  refine h v F' H' R' e.nob ?_
  cases r with
  | fz d => exact ok
  | sl i => exact ok.elim
  | ow o =>
    obtain ⟨p, a1, a2, a3, a4⟩ := ok
    refine ⟨p, a1, a2, a3, fun b hb z => ?_, a4⟩
    obtain ⟨u, hu⟩ := R.own_some z
    rw [a4 b hb] at hu; cases hu
theorem NPost.here {M : Md} {F H : Hp} {Qv : VK} {d : D} {v : V} (h : NPost M F H Qv (.fz d)) (s : Same F H) (r : Rep M F v d) : Qv v H := h v F H s Evo.refl r
theorem NPost.newT {M : Md} {F H : Hp} {Qv : VK} {ds : List D} {xs : List V} (h : NPost M F H Qv (.fz (.tup ds))) (s : Same F H) (r : RepL M F xs ds) {p : Addr} (hp : H p = none) : Qv (.ref p) (upd H p (.tup xs)) :=
  h _ (upd F p (.tup xs)) _ (same_newF s hp) (Evo.newF hp (s.free hp)) (.tup (.inl (.inl upd_same)) (r.same (same_upd (s.free hp))))
theorem NPost.newL {M : Md} {F H : Hp} {Qv : VK} {ds : List D} {xs : List V} (h : NPost M F H Qv (.ow (.lst ds))) (s : Same F H) (r : RepL M F xs ds) {p : Addr} (hp : H p = none) : Qv (.ref p) (upd H p (.lst xs)) :=
  h _ F _ (same_newO s hp) (Evo.newO hp) ⟨p, rfl, s.free hp, ⟨xs, upd_same, r⟩, has1 (P := fun b => H b = none) rfl hp⟩
abbrev G2 := D → D → (Rv → Prop) → Prop
structure Mono2 (g : G2) : Prop where
  mo : ∀ {a b : D} {Q Q' : Rv → Prop}, (∀ r, Q r → Q' r) → g a b Q → g a b Q'
structure VR2 (X : Cx) (f : Value → Value → Sem Value) (g : G2) : Prop where
  ok : OpR X f (fun x y H Qv => ∃ F da db, Same F H ∧ Vw (mdX X) F H x da ∧ Vw (mdX X) F H y db ∧ g da db (NPost (mdX X) F H Qv))
  mo : Mono2 g
def wOp2 (g : G2) (wa wb : EW) : EW := fun env Q E => wFz wa env (fun ra env1 => wFz wb env1 (fun rb env2 => ∃ da db, look env2 ra = some da ∧ look env2 rb = some db ∧ g da db (fun r => Q r env2)) E) E
theorem Mono.op2 {g : G2} (mg : Mono2 g) (ma : Mono wa) (mb : Mono wb) : Mono (wOp2 g wa wb) := ⟨fun hQ hE h => ma.fz.mo (fun ra e1 q => mb.fz.mo (fun rb e2 ⟨da, db, l1, l2, q⟩ => ⟨da, db, l1, l2, mg.mo (fun r z => hQ _ _ z) q⟩) hE q) hE h⟩
/-- an operand: what is needed behind it -/
theorem opd {M : Md} {F H : Hp} {env : En} {σ : St} {K : Rv → En → Prop} {Qv : VK} (ma : Mono wa) (R : Rel M c F H σ env) (h : wFz wa env K (XPost M c W F H σ env))
    (k : ∀ r env' v F' H', Rel M c F' H' σ env' → Evo (Own σ env) (Own σ env') F H F' H' → OpOk M F' σ v r → K r env' → Qv v H') : ERd M c W wa σ H Qv := by
  refine ⟨F, env, R, ma.mo (fun r e q => ?_) (fun _ _ z => z) h⟩
  intro v F' H' R' ev ok
  cases r with
  | fz d => exact k (.fz d) _ v F' H' R' ev ok q
  | sl i => exact k (.sl i) _ v F' H' R' ev ok.1 q
  | ow o =>
    obtain ⟨F2, R2, ev2, rp⟩ := temp_freeze R' ev ok
    exact k (.fz o.d) _ _ F2 H' R2 ev2 rp q
theorem opd2 {M : Md} {F H : Hp} {env : En} {σ : St} {K : Rv → Rv → En → Prop} {Rv2 : V → V → Hp → Prop} (ma : Mono wa) (mb : Mono wb) (R : Rel M c F H σ env)
    (h : wFz wa env (fun ra env1 => wFz wb env1 (K ra) (XPost M c W F H σ env)) (XPost M c W F H σ env))
    (k : ∀ ra rb env' x y F' H', Rel M c F' H' σ env' → Evo (Own σ env) (Own σ env') F H F' H' → OpOk M F' σ x ra → OpOk M F' σ y rb → K ra rb env' → Rv2 x y H') :
    ERd M c W wa σ H fun x H1 => ERd M c W wb σ H1 fun y H2 => Rv2 x y H2 :=
  opd ma R h fun ra env1 x F1 H1 R1 e1 ok1 q => opd mb R1 (mb.fz.mo (fun _ _ z => z) (fun _ _ z => XPost.step e1 z) q) fun rb env2 y F2 H2 R2 e2 ok2 q2 =>
    k ra rb env2 x y F2 H2 R2 (e1.trans e2) (ok1.same e2.fs) ok2 q2
theorem se_op {op : Operator} {g : G2} {pos : Pos} (ho : VR2 X (binaryOp op) g) (ha : SE X c W a wa) (hb : SE X c W b wb) : SE X c W (.BinOp a op b pos) (wOp2 g wa wb) := by
  refine ⟨PE.imp (pe_op ho.ok ha.pe hb.pe) fun σ H Q h => ?_, .op2 ho.mo ha.mo hb.mo⟩
  obtain ⟨F, env, R, h⟩ := h
  refine opd2 ha.mo hb.mo R h fun ra rb env' x y F' H' R' e o1 o2 q => ?_
  obtain ⟨da, db, l1, l2, q⟩ := q
  exact ⟨F', da, db, R'.sub, o1.vw R' l1, o2.vw R' l2, ho.mo.mo (fun r z => NPost.of R' (EPost.step e z)) q⟩
theorem se_cmp {op : CmpOp} {g : G2} {pos : Pos} (ho : VR2 X (compareOp op) g) (ha : SE X c W a wa) (hb : SE X c W b wb) (hm : behindInMarks op b = false) : SE X c W (.Compare a [op] [b] pos) (wOp2 g wa wb) := by
  refine ⟨PE.imp (pe_cmpR ho.ok ha.pe hb.pe hm) fun σ H Q h => ?_, .op2 ho.mo ha.mo hb.mo⟩
  obtain ⟨F, env, R, h⟩ := h
  refine opd2 ha.mo hb.mo R h fun ra rb env' x y F' H' R' e o1 o2 q => ?_
  obtain ⟨da, db, l1, l2, q⟩ := q
  exact ⟨F', da, db, R'.sub, o1.vw R' l1, o2.vw R' l2, ho.mo.mo (fun r z => NPost.of R' (EPost.step e z)) q⟩
def wVar (i : Nat) : EW := fun env Q _ => match env[i]? with
  | some (some (.fz d)) => Q (.fz d) env
  | some (some (.ow _)) => Q (.sl i) env
  | _ => False
theorem Mono.var {i : Nat} : Mono (wVar i) := ⟨fun {env Q Q' E E'} hQ hE h => by
  unfold wVar at h ⊢
  split at h
  · exact hQ _ _ h
  · exact hQ _ _ h
  · exact h⟩
theorem se_var {i : Nat} {x : Str} {pos : Pos} (hN : X.N[i]? = some x := by rfl) (hv : Vis X.env.scope x := by first | exact Or.inl rfl | exact Or.inr (Or.inl rfl) | exact Or.inr (Or.inr rfl)) (hd : (x == ("__debug__" : Str)) = false := by decide)
    (hcd : (x == ("__classdict__" : Str)) = false := by decide) : SE X c W (.Name x pos) (wVar i) := by
  refine ⟨PE.imp (pe_var hN hv hd hcd) fun σ H Q h => ?_, .var⟩
  obtain ⟨F, env, R, h⟩ := h
  unfold wVar at h
  split at h
  · rename_i d hd
    obtain ⟨v, h1, h2⟩ := R.fz i d hd
    exact ⟨v, h1, h v F H R Evo.refl h2⟩
  · rename_i o ho
    obtain ⟨p, h1, h2, h3⟩ := R.ow i o ho
    exact ⟨_, h1, h _ F H R Evo.refl ⟨h1, o, ho⟩⟩
  · exact h.elim
def wC (d : D) : EW := fun env Q _ => Q (.fz d) env
theorem Mono.C {d : D} : Mono (wC d) := ⟨fun hQ _ h => hQ _ _ h⟩
theorem se_const {v : V} {d : D} (h : PE X e (tC v)) (r : ∀ F, Rep (mdX X) F v d) : SE X c W e (wC d) := by
  refine ⟨PE.imp h fun σ H Q h => ?_, .C⟩
  obtain ⟨F, env, R, h⟩ := h
  exact h v F H R Evo.refl (r F)
theorem se_int {i j pos} : SE X c W (.Constant (.int i) j pos) (wC (.int i)) := se_const pe_int fun _ => .int i
theorem se_bl {i j pos} : SE X c W (.Constant (.bool i) j pos) (wC (.bl i)) := se_const pe_bl fun _ => .bl i
theorem se_non {j pos} : SE X c W (.Constant .none j pos) (wC .non) := se_const pe_non fun _ => .non
theorem se_str {i j pos} : SE X c W (.Constant (.str i) j pos) (wC (.str i)) := se_const pe_str fun _ => .str i
end
end LV
namespace LV
open PySem PySem.Spec L2
abbrev TW := En → (Bool → En → Prop) → XW → Prop
structure MonoT (w : TW) : Prop where
  mo : ∀ {env : En} {Q Q' : Bool → En → Prop} {E E' : XW}, (∀ r e, Q r e → Q' r e) → (∀ x e, E x e → E' x e) → w env Q E → w env Q' E'
def TPost (M : Md) (c : Ct) (F H : Hp) (σ : St) (env : En) (Qb : Bool → Hp → Prop) : Bool → En → Prop := fun b env' =>
  ∀ F' H', Rel M c F' H' σ env' → Evo (Own σ env) (Own σ env') F H F' H' → Qb b H'
theorem TPost.step {M : Md} {c : Ct} {F H F1 H1 : Hp} {σ : St} {env env1 : En} (e : Evo (Own σ env) (Own σ env1) F H F1 H1) {Qb : Bool → Hp → Prop} {r : Bool} {env2 : En} (h : TPost M c F H σ env Qb r env2) : TPost M c F1 H1 σ env1 Qb r env2 :=
  fun F' H' R' e' => h F' H' R' (e.trans e')
def TRd (M : Md) (c : Ct) (W : WX) (w : TW) : TT := fun σ H Qb => ∃ F env, Rel M c F H σ env ∧ w env (TPost M c F H σ env Qb) (XPost M c W F H σ env)
structure ST (X : Cx) (c : Ct) (W : WX) (e : Expr) (w : TW) : Prop where
  pt : PT X e (TRd (mdX X) c W w)
  mo : MonoT w
structure SPW (X : Cx) (c : Ct) (W : WX) (e : Expr) (w : TW) : Prop where
  pt : PW X e (TRd (mdX X) c W w)
  mo : MonoT w
theorem PW.imp {X : Cx} {e : Expr} {t t' : TT} (h : PW X e t) (i : ∀ σ H Q, t' σ H Q → t σ H Q) : PW X e t' := ⟨fun wh pins s σ H Q I q => h.run wh pins s σ H Q I (i σ H Q q)⟩
/-- an expression's value that must be True or False -/
def wB (w : EW) : TW := fun env Q E => w env (fun r e => ∃ b, r = .fz (.bl b) ∧ Q b e) E
theorem MonoT.B {w : EW} (m : Mono w) : MonoT (wB w) := ⟨fun hQ hE h => m.mo (fun r e ⟨b, e1, q⟩ => ⟨b, e1, hQ _ _ q⟩) hE h⟩
/-- a value's truth -/
def truD : D → Bool → Prop
  | .non, k => k = false
  | .bl b, k => k = b
  | .int i, k => k = (i != 0)
  | .str s, k => s.length ≤ sizeLine ∧ k = ((s.length : Int) != 0)
  | .tup ds, k => k = !ds.isEmpty
  | .lst ds, k => k = !ds.isEmpty
  | .scr ns, k => k = !ns.isEmpty
  | _, _ => False
def wTru (w : EW) : TW := fun env Q E => wFz w env (fun r e => ∃ d k, look e r = some d ∧ truD d k ∧ Q k e) E
theorem MonoT.tru {w : EW} (m : Mono w) : MonoT (wTru w) := ⟨fun hQ hE h => m.fz.mo (fun r e ⟨d, k, l, t, q⟩ => ⟨d, k, l, t, hQ _ _ q⟩) hE h⟩
theorem isEmpty_rep {M : Md} {F : Hp} {xs : List V} {ds : List D} (r : RepL M F xs ds) : xs.isEmpty = ds.isEmpty := by cases r <;> rfl
theorem truV_of {M : Md} {F H : Hp} {v : V} {d : D} {k : Bool} (sm : Same F H) (h : Vw M F H v d) (t : truD d k) : TruV M.K v H k := by
  cases d with
  | non => cases (show v = .non from h); exact t
  | bl b => cases (show v = .bl b from h); exact t
  | int i => cases (show v = .int i from h); exact t
  | str s => cases (show v = .str s from h); exact t
  | tup ds => obtain ⟨a, xs, rfl, q, r⟩ := h; exact .inr (.inl ⟨xs, Same.sqT sm q, by rw [isEmpty_rep r]; exact t⟩)
  | lst ds => obtain ⟨a, xs, rfl, q, r⟩ := h; exact .inl ⟨xs, .inl (.inl q), by rw [isEmpty_rep r]; exact t⟩
  | scr ns => obtain ⟨a, rfl, q⟩ := h; exact .inl ⟨_, q, by rw [show (ns.map V.int).isEmpty = ns.isEmpty by cases ns <;> rfl]; exact t⟩
  | dct _ _ => exact t.elim
  | ins _ _ _ => exact t.elim
  | cls _ => exact t.elim
  | ptr _ => exact t.elim
  | exn _ _ _ => exact t.elim
  | tpn _ => exact t.elim
section
variable {X : Cx} {c : Ct} {W : WX} {e a b d : Expr} {w wa wb wd : EW} {u ua ub : TW} {pos : Pos} {es rest : List Expr}
theorem TRd.post {M : Md} {F H F1 H1 : Hp} {σ : St} {env env1 : En} {Qb : Bool → Hp → Prop} (m : MonoT u) (R : Rel M c F1 H1 σ env1) (e : Evo (Own σ env) (Own σ env1) F H F1 H1)
    (h : u env1 (TPost M c F H σ env Qb) (XPost M c W F H σ env)) : TRd M c W u σ H1 Qb :=
  ⟨F1, env1, R, m.mo (fun _ _ z => TPost.step e z) (fun _ _ z => XPost.step e z) h⟩
theorem ERd.post {M : Md} {F H F1 H1 : Hp} {σ : St} {env env1 : En} {Qv : VK} (m : Mono w) (R : Rel M c F1 H1 σ env1) (e : Evo (Own σ env) (Own σ env1) F H F1 H1)
    (h : w env1 (EPost M c F H σ env Qv) (XPost M c W F H σ env)) : ERd M c W w σ H1 Qv :=
  ⟨F1, env1, R, m.mo (fun _ _ z => EPost.step e z) (fun _ _ z => XPost.step e z) h⟩
theorem st_tru (h : SE X c W e w) (he : ∀ whole, isTrue e X.env whole = (do let v ← whole; standAt e.pos; holding [v] (truthy v)) := by intro _; rfl) : ST X c W e (wTru w) := by
  refine ⟨PT.imp (pt_truth h.pe he) fun σ H Q q => ?_, .tru h.mo⟩
  obtain ⟨F, env, R, q⟩ := q
  refine opd h.mo R q fun r env' v F' H' R' ev ok ⟨d, k, l, t, q⟩ => ?_
  exact ⟨k, truV_of R'.sub (ok.vw R' l) t, q F' H' R' ev⟩
theorem st_cmp {op : CmpOp} {g : G2} (ho : VR2 X (compareOp op) g) (ha : SE X c W a wa) (hb : SE X c W b wb) (hm : behindInMarks op b = false) : ST X c W (.Compare a [op] [b] pos) (wB (wOp2 g wa wb)) := by
  refine ⟨PT.imp (pt_cmpR ho.ok ha.pe hb.pe hm) fun σ H Q h => ?_, .B (.op2 ho.mo ha.mo hb.mo)⟩
  obtain ⟨F, env, R, h⟩ := h
  refine opd2 (K := fun ra rb env2 => ∃ da db, look env2 ra = some da ∧ look env2 rb = some db ∧ g da db (fun r => ∃ b, r = .fz (.bl b) ∧ TPost (mdX X) c F H σ env Q b env2)) ha.mo hb.mo R h fun ra rb env' x y F' H' R' e o1 o2 q => ?_
  obtain ⟨da, db, l1, l2, q⟩ := q
  refine ⟨F', da, db, R'.sub, o1.vw R' l1, o2.vw R' l2, ho.mo.mo (fun r z => ?_) q⟩
  obtain ⟨k, e1, z⟩ := z
  subst e1
  intro v F'' H'' s ev ok
  cases (show Rep (mdX X) F'' v (.bl k) from ok)
  exact ⟨k, rfl, z F'' H'' (R'.evo ev s) (e.trans ev.nob)⟩
def wtNot (u : TW) : TW := fun env Q E => u env (fun b e => Q (!b) e) E
theorem MonoT.not (m : MonoT u) : MonoT (wtNot u) := ⟨fun hQ hE h => m.mo (fun r e q => hQ _ _ q) hE h⟩
theorem st_not (h : ST X c W a u) : ST X c W (.UnaryOp .Not a pos) (wtNot u) := by
  refine ⟨PT.imp (pt_not h.pt) fun σ H Q q => ?_, .not h.mo⟩
  obtain ⟨F, env, R, q⟩ := q
  exact ⟨F, env, R, q⟩
def wtAnd (u v : TW) : TW := fun env Q E => u env (fun b e => if b = true then v e Q E else Q false e) E
def wtOr (u v : TW) : TW := fun env Q E => u env (fun b e => if b = true then Q true e else v e Q E) E
theorem MonoT.and (m : MonoT ua) (n : MonoT ub) : MonoT (wtAnd ua ub) := ⟨fun hQ hE h => m.mo (fun r e q => by
  cases r with
  | true => exact n.mo hQ hE q
  | false => exact hQ _ _ q) hE h⟩
theorem MonoT.or (m : MonoT ua) (n : MonoT ub) : MonoT (wtOr ua ub) := ⟨fun hQ hE h => m.mo (fun r e q => by
  cases r with
  | false => exact n.mo hQ hE q
  | true => exact hQ _ _ q) hE h⟩
theorem spw_and1 (h : ST X c W a ua) : SPW X c W (.BoolOp .And [a] pos) ua := ⟨pw_and1 h.pt, h.mo⟩
theorem spw_or1 (h : ST X c W a ua) : SPW X c W (.BoolOp .Or [a] pos) ua := ⟨pw_or1 h.pt, h.mo⟩
theorem spw_and (h : ST X c W a ua) (h2 : SPW X c W (.BoolOp .And (b :: rest) pos) ub) : SPW X c W (.BoolOp .And (a :: b :: rest) pos) (wtAnd ua ub) := by
  refine ⟨PW.imp (pw_and h.pt h2.pt) fun σ H Q q => ?_, .and h.mo h2.mo⟩
  obtain ⟨F, env, R, q⟩ := q
  refine ⟨F, env, R, h.mo.mo (fun r e1 q => ?_) (fun _ _ z => z) q⟩
  intro F' H' R' ev
  cases r with
  | true => exact TRd.post h2.mo R' ev q
  | false => exact q F' H' R' ev
theorem spw_or (h : ST X c W a ua) (h2 : SPW X c W (.BoolOp .Or (b :: rest) pos) ub) : SPW X c W (.BoolOp .Or (a :: b :: rest) pos) (wtOr ua ub) := by
  refine ⟨PW.imp (pw_or h.pt h2.pt) fun σ H Q q => ?_, .or h.mo h2.mo⟩
  obtain ⟨F, env, R, q⟩ := q
  refine ⟨F, env, R, h.mo.mo (fun r e1 q => ?_) (fun _ _ z => z) q⟩
  intro F' H' R' ev
  cases r with
  | false => exact TRd.post h2.mo R' ev q
  | true => exact q F' H' R' ev
theorem SPW.st (h : SPW X c W e u) : ST X c W e u := ⟨h.pt.pt, h.mo⟩
def wAnd (wa wb : EW) : EW := fun env Q E => wa env (fun r e => ∃ b, r = .fz (.bl b) ∧ if b = true then wb e Q E else Q (.fz (.bl false)) e) E
def wOr (wa wb : EW) : EW := fun env Q E => wa env (fun r e => ∃ b, r = .fz (.bl b) ∧ if b = true then Q (.fz (.bl true)) e else wb e Q E) E
def wNot (wa : EW) : EW := fun env Q E => wa env (fun r e => ∃ b, r = .fz (.bl b) ∧ Q (.fz (.bl (!b))) e) E
theorem Mono.and (m : Mono wa) (n : Mono wb) : Mono (wAnd wa wb) := ⟨fun hQ hE h => m.mo (fun r e ⟨b, e1, q⟩ => ⟨b, e1, by
  cases b with
  | true => exact n.mo hQ hE q
  | false => exact hQ _ _ q⟩) hE h⟩
theorem Mono.or (m : Mono wa) (n : Mono wb) : Mono (wOr wa wb) := ⟨fun hQ hE h => m.mo (fun r e ⟨b, e1, q⟩ => ⟨b, e1, by
  cases b with
  | false => exact n.mo hQ hE q
  | true => exact hQ _ _ q⟩) hE h⟩
theorem Mono.not (m : Mono wa) : Mono (wNot wa) := ⟨fun hQ hE h => m.mo (fun r e ⟨b, e1, q⟩ => ⟨b, e1, hQ _ _ q⟩) hE h⟩
theorem se_one {op : BoolOp} (h : SE X c W a wa) : SE X c W (.BoolOp op [a] pos) wa := ⟨pe_one h.pe, h.mo⟩
theorem se_and (h : SE X c W a wa) (h2 : SE X c W (.BoolOp .And (b :: rest) pos) wb) : SE X c W (.BoolOp .And (a :: b :: rest) pos) (wAnd wa wb) := by
  refine ⟨PE.imp (pe_and h.pe h2.pe) fun σ H Q q => ?_, .and h.mo h2.mo⟩
  obtain ⟨F, env, R, q⟩ := q
  refine ⟨F, env, R, h.mo.mo (fun r e1 ⟨k, ek, q⟩ => ?_) (fun _ _ z => z) q⟩
  subst ek
  intro v F' H' R' ev ok
  cases (show Rep (mdX X) F' v (.bl k) from ok)
  refine ⟨k, rfl, ?_⟩
  cases k with
  | true => exact ERd.post h2.mo R' ev q
  | false => exact q _ F' H' R' ev (.bl false)
theorem se_or (h : SE X c W a wa) (h2 : SE X c W (.BoolOp .Or (b :: rest) pos) wb) : SE X c W (.BoolOp .Or (a :: b :: rest) pos) (wOr wa wb) := by
  refine ⟨PE.imp (pe_or h.pe h2.pe) fun σ H Q q => ?_, .or h.mo h2.mo⟩
  obtain ⟨F, env, R, q⟩ := q
  refine ⟨F, env, R, h.mo.mo (fun r e1 ⟨k, ek, q⟩ => ?_) (fun _ _ z => z) q⟩
  subst ek
  intro v F' H' R' ev ok
  cases (show Rep (mdX X) F' v (.bl k) from ok)
  refine ⟨k, rfl, ?_⟩
  cases k with
  | false => exact ERd.post h2.mo R' ev q
  | true => exact q _ F' H' R' ev (.bl true)
theorem se_not (h : SE X c W a wa) : SE X c W (.UnaryOp .Not a pos) (wNot wa) := by
  refine ⟨PE.imp (pe_not h.pe) fun σ H Q q => ?_, .not h.mo⟩
  obtain ⟨F, env, R, q⟩ := q
  refine ⟨F, env, R, h.mo.mo (fun r e1 ⟨k, ek, q⟩ => ?_) (fun _ _ z => z) q⟩
  subst ek
  intro v F' H' R' ev ok
  cases (show Rep (mdX X) F' v (.bl k) from ok)
  exact ⟨k, rfl, q _ F' H' R' ev (.bl _)⟩
def wIte (u : TW) (wa wb : EW) : EW := fun env Q E => u env (fun k e => if k = true then wa e Q E else wb e Q E) E
def wChain (g g' : G2) (wa wb wd : EW) : EW := fun env Q E => wFz wa env (fun ra e1 => wFz wb e1 (fun rb e2 => ∃ da db, look e2 ra = some da ∧ look e2 rb = some db ∧ g da db (fun r => ∃ k, r = .fz (.bl k) ∧
  if k = true then wFz wd e2 (fun rd e3 => ∃ db' dd, look e3 rb = some db' ∧ look e3 rd = some dd ∧ g' db' dd (fun r => Q r e3)) E else Q (.fz (.bl false)) e2)) E) E
theorem Mono.chain {g g' : G2} (mg : Mono2 g) (mg' : Mono2 g') (ma : Mono wa) (mb : Mono wb) (md : Mono wd) : Mono (wChain g g' wa wb wd) :=
  ⟨fun hQ hE h => ma.fz.mo (fun ra e1 q => mb.fz.mo (fun rb e2 ⟨da, db, l1, l2, q⟩ => ⟨da, db, l1, l2, mg.mo (fun r ⟨k, e, z⟩ => ⟨k, e, by
    cases k with
    | true =>
      rw [if_pos rfl] at z ⊢
      exact md.fz.mo (fun rd e3 ⟨x, y, l3, l4, z⟩ => ⟨x, y, l3, l4, mg'.mo (fun r z => hQ _ _ z) z⟩) hE z
    | false => exact hQ _ _ z⟩) q⟩) hE q) hE h⟩
theorem chain_core {op op' : CmpOp} {g g' : G2} (ho : VR2 X (compareOp op) g) (ho' : VR2 X (compareOp op') g') (ma : Mono wa) (mb : Mono wb) (md : Mono wd) {σ : St} {H : Hp} {Q : VK} {F : Hp} {env : En}
    (R : Rel (mdX X) c F H σ env) (h : wChain g g' wa wb wd env (EPost (mdX X) c F H σ env Q) (XPost (mdX X) c W F H σ env)) :
    tChain (fun x y H Qv => ∃ F da db, Same F H ∧ Vw (mdX X) F H x da ∧ Vw (mdX X) F H y db ∧ g da db (NPost (mdX X) F H Qv)) (fun x y H Qv => ∃ F da db, Same F H ∧ Vw (mdX X) F H x da ∧ Vw (mdX X) F H y db ∧ g' da db (NPost (mdX X) F H Qv))
      (ERd (mdX X) c W wa) (ERd (mdX X) c W wb) (ERd (mdX X) c W wd) σ H Q := by
  refine opd2 ma mb R h fun ra rb e2 x y F2 H2 R2 ev2 o1 o2 q => ?_
  obtain ⟨da, db, l1, l2, q⟩ := q
  refine ⟨F2, da, db, R2.sub, o1.vw R2 l1, o2.vw R2 l2, ho.mo.mo (fun r z => ?_) q⟩
  obtain ⟨k, ek, z⟩ := z
  subst ek
  intro v F3 H3 s ev3 ok3
  cases (show Rep (mdX X) F3 v (.bl k) from ok3)
  have R3 := R2.evo ev3 s
  have ev := ev2.trans (ev3.nob (A := Own σ e2))
  refine ⟨k, rfl, ?_⟩
  cases k with
  | false => exact z _ F3 H3 R3 ev (.bl false)
  | true =>
    rw [if_pos rfl] at z ⊢
    refine opd md R3 (md.fz.mo (fun _ _ z => z) (fun _ _ z => XPost.step ev z) z) fun rd e4 w F4 H4 R4 ev4 ok4 q4 => ?_
    obtain ⟨db', dd, l3, l4, q4⟩ := q4
    exact ⟨F4, db', dd, R4.sub, (o2.same (ev3.fs.trans ev4.fs)).vw R4 l3, ok4.vw R4 l4, ho'.mo.mo (fun r z => NPost.of R4 (EPost.step (ev.trans ev4) z)) q4⟩
theorem st_chain {op op' : CmpOp} {g g' : G2} (ho : VR2 X (compareOp op) g) (ho' : VR2 X (compareOp op') g') (ha : SE X c W a wa) (hb : SE X c W b wb) (hd : SE X c W d wd)
    (hm : lastMarks [op, op'] [b, d] = false := by with_unfolding_all rfl) : ST X c W (.Compare a [op, op'] [b, d] pos) (wB (wChain g g' wa wb wd)) := by
  have mm := Mono.chain ho.mo ho'.mo ha.mo hb.mo hd.mo
  refine ⟨PT.imp (pt_chain ho.ok ho'.ok ha.pe hb.pe hd.pe hm) fun σ H Q h => ?_, .B mm⟩
  obtain ⟨F, env, R, h⟩ := h
  refine chain_core ho ho' ha.mo hb.mo hd.mo R (mm.mo (fun r e ⟨k, ek, z⟩ => ?_) (fun _ _ z => z) h)
  subst ek
  intro v F' H' R' ev ok
  cases (show Rep (mdX X) F' v (.bl k) from ok)
  exact ⟨k, rfl, z F' H' R' ev⟩
abbrev AW := En → (List Rv → En → Prop) → XW → Prop
structure MonoA (w : AW) : Prop where
  mo : ∀ {env : En} {Q Q' : List Rv → En → Prop} {E E' : XW}, (∀ r e, Q r e → Q' r e) → (∀ x e, E x e → E' x e) → w env Q E → w env Q' E'
def OpsOk (M : Md) (F : Hp) (σ : St) : List V → List Rv → Prop
  | [], [] => True
  | v :: vs, r :: rs => OpOk M F σ v r ∧ OpsOk M F σ vs rs
  | _, _ => False
theorem OpsOk.same {M : Md} {F F' : Hp} {σ : St} (s : Same F F') : ∀ {vs : List V} {rs : List Rv}, OpsOk M F σ vs rs → OpsOk M F' σ vs rs
  | [], [], _ => True.intro
  | _ :: _, _ :: _, ⟨h, r⟩ => ⟨h.same s, OpsOk.same s r⟩
  | [], _ :: _, h => h.elim
  | _ :: _, [], h => h.elim
def APost (M : Md) (c : Ct) (F H : Hp) (σ : St) (env : En) (Q : List V → Hp → Prop) : List Rv → En → Prop := fun rs env' =>
  ∀ vs F' H', Rel M c F' H' σ env' → Evo (Own σ env) (Own σ env') F H F' H' → OpsOk M F' σ vs rs → Q vs H'
def ARd (M : Md) (c : Ct) (W : WX) (w : AW) : TA := fun σ H Q => ∃ F env, Rel M c F H σ env ∧ w env (APost M c F H σ env Q) (XPost M c W F H σ env)
structure SA (X : Cx) (c : Ct) (W : WX) (es : List Expr) (w : AW) : Prop where
  pa : PA X es (ARd (mdX X) c W w)
  mo : MonoA w
def wNil : AW := fun env Q _ => Q [] env
def wCons (w : EW) (wl : AW) : AW := fun env Q E => wFz w env (fun r e => wl e (fun rs e2 => Q (r :: rs) e2) E) E
theorem sa_nil : SA X c W [] wNil := ⟨PA.imp pa_nil fun σ H Q h => by
  obtain ⟨F, env, R, h⟩ := h
  exact h [] F H R Evo.refl True.intro, ⟨fun hQ _ h => hQ _ _ h⟩⟩
theorem sa_cons {wl : AW} (h : SE X c W e w) (h2 : SA X c W es wl) (hs : starEach (e :: es) X.env = (false, eval e X.env) :: starEach es X.env := by rfl) : SA X c W (e :: es) (wCons w wl) := by
  refine ⟨PA.imp (pa_cons h.pe h2.pa hs) fun σ H Q q => ?_, ⟨fun hQ hE q => h.mo.fz.mo (fun r e q => h2.mo.mo (fun rs e q => hQ _ _ q) hE q) hE q⟩⟩
  obtain ⟨F, env, R, q⟩ := q
  refine opd h.mo R q fun r e1 v F1 H1 R1 ev1 ok1 q1 => ?_
  refine ⟨F1, e1, R1, h2.mo.mo (fun rs e2 q2 => ?_) (fun _ _ z => XPost.step ev1 z) q1⟩
  intro vs F2 H2 R2 ev2 ok2
  exact q2 (v :: vs) F2 H2 R2 (ev1.trans ev2) ⟨ok1.same ev2.fs, ok2⟩
def lookL (env : En) : List Rv → Option (List D)
  | [] => some []
  | r :: rs => match look env r, lookL env rs with
    | some d, some ds => some (d :: ds)
    | _, _ => none
def VwL (M : Md) (F H : Hp) : List V → List D → Prop
  | [], [] => True
  | v :: vs, d :: ds => Vw M F H v d ∧ VwL M F H vs ds
  | _, _ => False
theorem OpsOk.vw {M : Md} {F H : Hp} {σ : St} {env : En} (R : Rel M c F H σ env) : ∀ {vs : List V} {rs : List Rv} {ds : List D}, OpsOk M F σ vs rs → lookL env rs = some ds → VwL M F H vs ds
  | [], [], _, _, l => by cases l; exact True.intro
  | v :: vs, r :: rs, ds, ⟨h, t⟩, l => by
    unfold lookL at l
    cases h1 : look env r with
    | none => rw [h1] at l; cases l
    | some x =>
      cases h2 : lookL env rs with
      | none => rw [h1, h2] at l; cases l
      | some xs =>
        rw [h1, h2] at l
        cases l
        exact ⟨h.vw R h1, OpsOk.vw R t h2⟩
  | [], _ :: _, _, h, _ => h.elim
  | _ :: _, [], _, h, _ => h.elim
abbrev GL := List D → (Rv → Prop) → Prop
structure MonoL (g : GL) : Prop where
  mo : ∀ {ds : List D} {Q Q' : Rv → Prop}, (∀ r, Q r → Q' r) → g ds Q → g ds Q'
structure VRL (X : Cx) (f : Value) (g : GL) : Prop where
  ok : CallR X f (fun vs H Qv => ∃ F ds, Same F H ∧ VwL (mdX X) F H vs ds ∧ g ds (NPost (mdX X) F H Qv))
  mo : MonoL g
def wBlt (g : GL) (wl : AW) : EW := fun env Q E => wl env (fun rs e => ∃ ds, lookL e rs = some ds ∧ g ds (fun r => Q r e)) E
theorem Mono.blt {g : GL} {wl : AW} (mg : MonoL g) (ml : MonoA wl) : Mono (wBlt g wl) := ⟨fun hQ hE h => ml.mo (fun rs e ⟨ds, l, q⟩ => ⟨ds, l, mg.mo (fun r z => hQ _ _ z) q⟩) hE h⟩
theorem blt_core {M : Md} {g : GL} {wl : AW} (mg : MonoL g) (ml : MonoA wl) {σ : St} {H : Hp} {Q : VK} (h : ERd M c W (wBlt g wl) σ H Q) :
    ARd M c W wl σ H fun vs H1 => ∃ F ds, Same F H1 ∧ VwL M F H1 vs ds ∧ g ds (NPost M F H1 Q) := by
  obtain ⟨F, env, R, h⟩ := h
  refine ⟨F, env, R, ml.mo (fun rs e ⟨ds, l, q⟩ => ?_) (fun _ _ z => z) h⟩
  intro vs F' H' R' ev ok
  exact ⟨F', ds, R'.sub, ok.vw R' l, mg.mo (fun r z => NPost.of R' (EPost.step ev z)) q⟩
theorem se_callB {x : Str} {p : Pos} {id : String} {g : GL} {wl : AW} (hc : VRL X (.builtin id) g) (hg : Gl X x) (hm : X.mg x = none) (hv : bootBuiltins x = some (.builtin id)) (ha : SA X c W (e :: es) wl)
    (hn : x ≠ "__name__" := by decide) (hdb : (x == ("__debug__" : Str)) = false := by decide) (hst : starEach (e :: es) X.env = (false, eval e X.env) :: starEach es X.env := by rfl) (hpl : (backTo pos (starEach es X.env)).any (·.1) = false := by rfl) :
    SE X c W (.Call (.Name x p) (e :: es) [] pos) (wBlt g wl) :=
  ⟨PE.imp (pe_callB hc.ok hg hm hv ha.pa hn hdb hst hpl) fun σ H Q h => blt_core hc.mo ha.mo h, .blt hc.mo ha.mo⟩
theorem se_callTy {x : Str} {p : Pos} {T : String} {g : GL} {wl : AW} (hc : VRL X (.type T) g) (hg : Gl X x) (hm : X.mg x = none) (hv : bootBuiltins x = some (.type T)) (ha : SA X c W (e :: es) wl)
    (hn : x ≠ "__name__" := by decide) (hdb : (x == ("__debug__" : Str)) = false := by decide) (hst : starEach (e :: es) X.env = (false, eval e X.env) :: starEach es X.env := by rfl) (hpl : (backTo pos (starEach es X.env)).any (·.1) = false := by rfl) :
    SE X c W (.Call (.Name x p) (e :: es) [] pos) (wBlt g wl) :=
  ⟨PE.imp (pe_callTy hc.ok hg hm hv ha.pa hn hdb hst hpl) fun σ H Q h => blt_core hc.mo ha.mo h, .blt hc.mo ha.mo⟩
end
end LV
namespace LV
open PySem PySem.Spec L2
def frz1 (env : En) : Rv → Option (D × En)
  | .fz d => some (d, env)
  | .ow o => none
  | .sl i => match env[i]? with
    | some (some (.ow o)) => some (o.d, env.set i (some (.fz o.d)))
    | some (some (.fz d)) => some (d, env)
    | _ => none
def frzL (env : En) : List Rv → Option (List D × En)
  | [] => some ([], env)
  | r :: rs => match frz1 env r with
    | none => none
    | some (d, e1) => match frzL e1 rs with
      | none => none
      | some (ds, e2) => some (d :: ds, e2)
section
variable {M : Md} {c : Ct} {F H : Hp} {σ : St} {env env' : En}
theorem frz1_ok {v : V} {r : Rv} {d : D} (R : Rel M c F H σ env) (h : OpOk M F σ v r) (e : frz1 env r = some (d, env')) :
    ∃ F', Rel M c F' H σ env' ∧ Evo (Own σ env) (Own σ env') F H F' H ∧ Rep M F' v d := by
  cases r with
  | fz d' => cases e; exact ⟨F, R, Evo.refl, h⟩
  | ow o => cases e
  | sl i =>
    have h' : σ[i]? = some (some v) := h
    cases he : env[i]? with
    | none => simp only [frz1, he] at e; cases e
    | some x =>
      cases x with
      | none => simp only [frz1, he] at e; cases e
      | some y =>
        cases y with
        | ex _ _ _ _ => simp only [frz1, he] at e; cases e
        | fz d' =>
          simp only [frz1, he] at e
          cases e
          obtain ⟨u, h1, h2⟩ := R.fz i _ he
          rw [h'] at h1; cases h1
          exact ⟨F, R, Evo.refl, h2⟩
        | ow o =>
          simp only [frz1, he] at e
          cases e
          obtain ⟨p, F', h1, R', r, ev, _⟩ := R.freeze he
          rw [h'] at h1; cases h1
          exact ⟨F', R', ev, r⟩
theorem frzL_ok : ∀ {vs : List V} {rs : List Rv} {ds : List D} {F : Hp} {env env' : En}, Rel M c F H σ env → OpsOk M F σ vs rs → frzL env rs = some (ds, env') →
    ∃ F', Rel M c F' H σ env' ∧ Evo (Own σ env) (Own σ env') F H F' H ∧ RepL M F' vs ds
  | [], [], _, F, env, _, R, _, e => by cases e; exact ⟨F, R, Evo.refl, .nil⟩
  | v :: vs, r :: rs, ds, F, env, env', R, ⟨h, t⟩, e => by
    unfold frzL at e
    cases e1 : frz1 env r with
    | none => rw [e1] at e; cases e
    | some p =>
      obtain ⟨d, en1⟩ := p
      rw [e1] at e
      cases e2 : frzL en1 rs with
      | none => simp only [e2] at e; cases e
      | some q =>
        obtain ⟨ds', en2⟩ := q
        simp only [e2] at e
        cases e
        obtain ⟨F1, R1, ev1, r1⟩ := frz1_ok R h e1
        obtain ⟨F2, R2, ev2, r2⟩ := frzL_ok R1 (t.same ev1.fs) e2
        exact ⟨F2, R2, ev1.trans ev2, .cons (r1.same ev2.fs) r2⟩
  | [], _ :: _, _, _, _, _, _, h, _ => h.elim
  | _ :: _, [], _, _, _, _, _, h, _ => h.elim
end
section
variable {X : Cx} {c : Ct} {W : WX} {e a b : Expr} {w wa wb : EW} {wl : AW} {pos : Pos} {es : List Expr}
def wTup (wl : AW) : EW := fun env Q E => wl env (fun rs e => ∃ ds e', frzL e rs = some (ds, e') ∧ ds.length ≤ sizeLine ∧ Q (.fz (.tup ds)) e') E
def wLst (wl : AW) : EW := fun env Q E => wl env (fun rs e => ∃ ds e', frzL e rs = some (ds, e') ∧ ds.length ≤ sizeLine ∧ Q (.ow (.lst ds)) e') E
theorem Mono.tup (m : MonoA wl) : Mono (wTup wl) := ⟨fun hQ hE h => m.mo (fun rs e ⟨ds, e', l, z, q⟩ => ⟨ds, e', l, z, hQ _ _ q⟩) hE h⟩
theorem Mono.lst (m : MonoA wl) : Mono (wLst wl) := ⟨fun hQ hE h => m.mo (fun rs e ⟨ds, e', l, z, q⟩ => ⟨ds, e', l, z, hQ _ _ q⟩) hE h⟩
theorem Rel.notOwn {M : Md} {F H : Hp} {σ : St} {env : En} (R : Rel M c F H σ env) {p : Addr} (hp : H p = none) : ¬ Own σ env p := fun z => by
  obtain ⟨u, hu⟩ := R.own_some z
  rw [hp] at hu; cases hu
theorem se_tup {k : Nat} (h : SA X c W es wl) : SE X c W (.Tuple es k pos) (wTup wl) := by
  refine ⟨PE.imp (pe_tup h.pa) fun σ H Q q => ?_, .tup h.mo⟩
  obtain ⟨F, env, R, q⟩ := q
  refine ⟨F, env, R, h.mo.mo (fun rs e ⟨ds, e', l, z, q⟩ => ?_) (fun _ _ z => z) q⟩
  intro vs F1 H1 R1 ev1 ok1
  obtain ⟨F2, R2, ev2, rl⟩ := frzL_ok R1 ok1 l
  refine ⟨by rw [rl.length]; exact z, fun p hp => ?_⟩
  have s := R2.sub
  have ev := (Evo.newF (o := .tup vs) hp (s.free hp))
  exact q _ _ _ (R2.evo ev (same_newF s hp)) ((ev1.trans ev2).trans ev.nob) (.tup (.inl (.inl upd_same)) (rl.same ev.fs))
theorem se_lst (h : SA X c W es wl) : SE X c W (.List es pos) (wLst wl) := by
  refine ⟨PE.imp (pe_lst h.pa) fun σ H Q q => ?_, .lst h.mo⟩
  obtain ⟨F, env, R, q⟩ := q
  refine ⟨F, env, R, h.mo.mo (fun rs e ⟨ds, e', l, z, q⟩ => ?_) (fun _ _ z => z) q⟩
  intro vs F1 H1 R1 ev1 ok1
  obtain ⟨F2, R2, ev2, rl⟩ := frzL_ok R1 ok1 l
  refine ⟨by rw [rl.length]; exact z, fun p hp => ?_⟩
  have s := R2.sub
  have ev : Evo Nob Nob F2 H1 F2 (upd H1 p (.lst vs)) := Evo.newO hp
  exact q _ _ _ (R2.evo ev (same_newO s hp)) ((ev1.trans ev2).trans ev.nob) ⟨p, rfl, s.free hp, ⟨vs, upd_same, rl⟩, hO (R2.notOwn hp), hH ((ev1.trans ev2).noneOf hp)⟩
structure VIx (X : Cx) (g : G2) : Prop where
  ok : IxR X (fun x y H Qv => ∃ F da db, Same F H ∧ Vw (mdX X) F H x da ∧ Vw (mdX X) F H y db ∧ g da db (NPost (mdX X) F H Qv))
  mo : Mono2 g
theorem se_ix {g : G2} (ho : VIx X g) (ha : SE X c W a wa) (hb : SE X c W b wb) (hs : PlainIx b := by exact fun _ _ => rfl) : SE X c W (.Subscript a b pos) (wOp2 g wa wb) := by
  refine ⟨PE.imp (pe_ix ho.ok ha.pe hb.pe hs) fun σ H Q h => ?_, .op2 ho.mo ha.mo hb.mo⟩
  obtain ⟨F, env, R, h⟩ := h
  refine opd2 ha.mo hb.mo R h fun ra rb env' x y F' H' R' e o1 o2 q => ?_
  obtain ⟨da, db, l1, l2, q⟩ := q
  exact ⟨F', da, db, R'.sub, o1.vw R' l1, o2.vw R' l2, ho.mo.mo (fun r z => NPost.of R' (EPost.step e z)) q⟩
abbrev OW := En → (Option Int → En → Prop) → XW → Prop
structure MonoO (w : OW) : Prop where
  mo : ∀ {env : En} {Q Q' : Option Int → En → Prop} {E E' : XW}, (∀ r e, Q r e → Q' r e) → (∀ x e, E x e → E' x e) → w env Q E → w env Q' E'
def ORd (M : Md) (c : Ct) (W : WX) (w : OW) : TO := fun σ H Q => ∃ F env, Rel M c F H σ env ∧ w env (fun o env' => ∀ F' H', Rel M c F' H' σ env' → Evo (Own σ env) (Own σ env') F H F' H' → Q o H') (XPost M c W F H σ env)
structure SO (X : Cx) (c : Ct) (W : WX) (e : Option Expr) (w : OW) : Prop where
  po : PO X e (ORd (mdX X) c W w)
  mo : MonoO w
theorem PO.imp {X : Cx} {e : Option Expr} {t t' : TO} (h : PO X e t) (i : ∀ σ H Q, t' σ H Q → t σ H Q) : PO X e t' := ⟨fun pins s σ H Q I q => h.run pins s σ H Q I (i σ H Q q)⟩
def wNoP : OW := fun env Q _ => Q none env
def wPt (w : EW) : OW := fun env Q E => w env (fun r e => ∃ i, r = .fz (.int i) ∧ Q (some i) e) E
theorem so_none : SO X c W none wNoP := ⟨PO.imp po_none fun σ H Q h => by
  obtain ⟨F, env, R, h⟩ := h
  exact h F H R Evo.refl, ⟨fun hQ _ h => hQ _ _ h⟩⟩
theorem so_some (h : SE X c W e w) : SO X c W (some e) (wPt w) := by
  refine ⟨PO.imp (po_some h.pe) fun σ H Q q => ?_, ⟨fun hQ hE q => h.mo.mo (fun r e ⟨i, e1, q⟩ => ⟨i, e1, hQ _ _ q⟩) hE q⟩⟩
  obtain ⟨F, env, R, q⟩ := q
  refine ⟨F, env, R, h.mo.mo (fun r e1 ⟨i, ei, q⟩ => ?_) (fun _ _ z => z) q⟩
  subst ei
  intro v F' H' R' ev ok
  cases (show Rep (mdX X) F' v (.int i) from ok)
  exact ⟨i, rfl, q F' H' R' ev⟩
def cutD (ds : List D) (lo hi : Option Int) : List D := (ds.drop (HT.sIx ds.length 0 lo)).take (HT.sIx ds.length ds.length hi - HT.sIx ds.length 0 lo)
theorem RepL.cut {M : Md} {F : Hp} {xs : List V} {ds : List D} (r : RepL M F xs ds) (lo hi : Option Int) : RepL M F (cutV xs lo hi) (cutD ds lo hi) := by
  unfold cutV cutD
  rw [r.length]
  exact (r.drop _).take _
def gSl (d : D) (lo hi : Option Int) (Q : Rv → Prop) : Prop :=
  match d with
  | .tup ds => Q (.fz (.tup (cutD ds lo hi)))
  | .lst ds => Q (.ow (.lst (cutD ds lo hi)))
  | .scr ns => Q (.ow (.lst (cutD (ns.map D.int) lo hi)))
  | .str z => z.length ≤ sizeLine ∧ Q (.fz (.str (cutS z lo hi)))
  | _ => False
theorem gSl_mono {d : D} {lo hi : Option Int} {Q Q' : Rv → Prop} (h : ∀ r, Q r → Q' r) (q : gSl d lo hi Q) : gSl d lo hi Q' := by
  cases d with
  | tup ds => exact h _ q
  | lst ds => exact h _ q
  | scr ds => exact h _ q
  | str z => exact ⟨q.1, h _ q.2⟩
  | _ => exact q
theorem cut_ints (ns : List Int) (lo hi : Option Int) : RepL M F (cutV (ns.map V.int) lo hi) (cutD (ns.map D.int) lo hi) := RepL.cut (RepL.of_ints ns) lo hi
theorem sl_any : SlR X (fun x lo hi H Qv => ∃ F d, Same F H ∧ Vw (mdX X) F H x d ∧ gSl d lo hi (NPost (mdX X) F H Qv)) := by
  intro pins s σ H x v vl vu lo hi sl Q I rx hs pl pu h
  obtain ⟨F, d, sm, vw, q⟩ := h
  cases d with
  | tup ds =>
    obtain ⟨a, xs, rfl, hx, r⟩ := vw
    refine sl_tupA pins s σ H _ v vl vu lo hi sl Q I rx hs pl pu ⟨a, xs, rfl, Same.sqT sm hx, fun hw => ?_, fun hw p hp => NPost.newT q sm (r.cut lo hi) hp⟩
    have e : cutD ds lo hi = ds := by
      have h' : HT.sIx ds.length 0 lo = 0 ∧ HT.sIx ds.length ds.length hi = ds.length := by rw [← r.length]; exact hw
      unfold cutD
      rw [h'.1, h'.2]
      simp
    have q' : NPost (mdX X) F H Q (.fz (.tup ds)) := by rw [← e]; exact q
    exact NPost.here q' sm (.tup hx r)
  | lst ds =>
    obtain ⟨a, xs, rfl, hx, r⟩ := vw
    exact sl_list pins s σ H _ v vl vu lo hi sl Q I rx hs pl pu ⟨a, xs, rfl, .inl (.inl hx), fun p hp => NPost.newL q sm (r.cut lo hi) hp⟩
  | scr ns =>
    obtain ⟨a, rfl, hx⟩ := vw
    exact sl_list pins s σ H _ v vl vu lo hi sl Q I rx hs pl pu ⟨a, _, rfl, hx, fun p hp => NPost.newL q sm (cut_ints ns lo hi) hp⟩
  | str z =>
    cases (show x = .str z from vw)
    exact sl_str pins s σ H _ v vl vu lo hi sl Q I rx hs pl pu ⟨z, rfl, q.1, NPost.here q.2 sm (.str _)⟩
  | _ => exact q.elim
def wSl (w : EW) (wl wh : OW) : EW := fun env Q E => wFz w env (fun r e1 => wl e1 (fun lo e2 => wh e2 (fun hi e3 => ∃ d, look e3 r = some d ∧ gSl d lo hi (fun r => Q r e3)) E) E) E
theorem se_sl {lo hi : Option Expr} {ul uh : OW} {p2 : Pos} (h : SE X c W e w) (hl : SO X c W lo ul) (hh : SO X c W hi uh) : SE X c W (.Subscript e (.Slice lo hi none p2) pos) (wSl w ul uh) := by
  refine ⟨PE.imp (pe_slice sl_any h.pe hl.po hh.po) fun σ H Q q => ?_, ⟨fun hQ hE q => h.mo.fz.mo (fun r e q => hl.mo.mo (fun lo e q => hh.mo.mo (fun hi e ⟨d, l, q⟩ => ⟨d, l, gSl_mono (fun _ z => hQ _ _ z) q⟩) hE q) hE q) hE q⟩⟩
  obtain ⟨F, env, R, q⟩ := q
  refine opd h.mo R q fun r e1 v F1 H1 R1 ev1 ok1 q1 => ?_
  refine ⟨F1, e1, R1, hl.mo.mo (fun lo e2 q2 => ?_) (fun _ _ z => XPost.step ev1 z) q1⟩
  intro F2 H2 R2 ev2
  refine ⟨F2, e2, R2, hh.mo.mo (fun hi e3 q3 => ?_) (fun _ _ z => XPost.step (ev1.trans ev2) z) q2⟩
  intro F3 H3 R3 ev3
  obtain ⟨d, l, q3⟩ := q3
  exact ⟨F3, d, R3.sub, (ok1.same (ev2.fs.trans ev3.fs)).vw R3 l, gSl_mono (fun r z => NPost.of R3 (EPost.step ((ev1.trans ev2).trans ev3) z)) q3⟩
/-- what a def keeps: arguments, what follows (the result, the arguments afterwards), what follows a raise -/
abbrev FSpec := List Val → (Rv → List Val → Prop) → (Xn → List Val → Prop) → Prop
structure MonoF (S : FSpec) : Prop where
  mo : ∀ {args : List Val} {Q Q' : Rv → List Val → Prop} {E E' : Xn → List Val → Prop}, (∀ r e, Q r e → Q' r e) → (∀ x e, E x e → E' x e) → S args Q E → S args Q' E'
def sV (vs : List V) : St := vs.map some
def eV (args : List Val) : En := args.map some
def toSp (M : Md) (S : FSpec) : Sp := fun vs H Q E => ∃ F args, Rel M (ctN H) F H (sV vs) (eV args) ∧ S args
  (fun r args' => ∀ v F' H', Rel M (ctN H) F' H' (sV vs) (eV args') → Evo (Own (sV vs) (eV args)) (Own (sV vs) (eV args')) F H F' H' → RvOk M F' H' H (sV vs) (eV args') v r → Q v H')
  (fun x args' => ∀ cl d F' H', Rel M (ctN H) F' H' (sV vs) (eV args') → Evo (Own (sV vs) (eV args)) (Own (sV vs) (eV args')) F H F' H' → XOk M F' x cl d → E cl d H')
/-- an argument as it is handed over -/
def valOf (env : En) : Rv → Option Val
  | .fz d => some (.fz d)
  | .ow _ => none
  | .sl i => match env[i]? with
    | some (some (.ow (.nst _))) => none
    | some (some (.ow o)) => some (.ow o)
    | some (some (.fz d)) => some (.fz d)
    | _ => none
def valL (env : En) : List Rv → Option (List Val)
  | [] => some []
  | r :: rs => match valOf env r, valL env rs with
    | some a, some as => some (a :: as)
    | _, _ => none
/-- the slots that are handed over, each once -/
def slotsOf : List Rv → List Nat
  | [] => []
  | .sl i :: rs => i :: slotsOf rs
  | _ :: rs => slotsOf rs
def putL (env : En) : List Rv → List Val → En
  | .sl i :: rs, a :: as => (putL env rs as).set i (some a)
  | _ :: rs, _ :: as => putL env rs as
  | _, _ => env
/-- behind a call: data has stayed data -/
def backOk : List Val → List Val → Bool
  | [], [] => true
  | .fz _ :: as, .fz _ :: bs => backOk as bs
  | .ow _ :: as, .fz _ :: bs => backOk as bs
  | .ow _ :: as, .ow _ :: bs => backOk as bs
  | _, _ => false
theorem backOk_len : ∀ {as bs : List Val}, backOk as bs = true → bs.length = as.length
  | [], [], _ => rfl
  | .fz _ :: as, .fz _ :: bs, h => by rw [List.length_cons, List.length_cons, backOk_len (as := as) (bs := bs) h]
  | .ow _ :: as, .fz _ :: bs, h => by rw [List.length_cons, List.length_cons, backOk_len (as := as) (bs := bs) h]
  | .ow _ :: as, .ow _ :: bs, h => by rw [List.length_cons, List.length_cons, backOk_len (as := as) (bs := bs) h]
theorem backOk_ow : ∀ {as bs : List Val} {k : Nat} {a : Val} {o : O}, backOk as bs = true → as[k]? = some a → bs[k]? = some (.ow o) → ∃ o', a = .ow o'
  | [], [], k, a, o, _, e, _ => by simp at e
  | .fz _ :: as, .fz _ :: bs, 0, a, o, h, _, e => by simp at e
  | .ow o' :: as, .fz _ :: bs, 0, a, o, h, _, e => by simp at e
  | .ow o' :: as, .ow _ :: bs, 0, a, o, h, e, _ => by simp at e; exact ⟨o', e.symm⟩
  | .fz _ :: as, .fz _ :: bs, k + 1, a, o, h, e, e' => backOk_ow (as := as) (bs := bs) (k := k) h (by simpa using e) (by simpa using e')
  | .ow _ :: as, .fz _ :: bs, k + 1, a, o, h, e, e' => backOk_ow (as := as) (bs := bs) (k := k) h (by simpa using e) (by simpa using e')
  | .ow _ :: as, .ow _ :: bs, k + 1, a, o, h, e, e' => backOk_ow (as := as) (bs := bs) (k := k) h (by simpa using e) (by simpa using e')
def wCall (S : FSpec) (wl : AW) : EW := fun env Q E => wl env (fun rs e => ∃ args, valL e rs = some args ∧ (slotsOf rs).Nodup ∧ S args (fun r args' => backOk args args' = true ∧ (∀ i, r ≠ .sl i) ∧ Q r (putL e rs args')) (fun x args' => backOk args args' = true ∧ E x (putL e rs args'))) E
theorem Mono.call {S : FSpec} (mS : MonoF S) (ml : MonoA wl) : Mono (wCall S wl) := ⟨fun hQ hE h => ml.mo (fun rs e ⟨args, l, n, q⟩ => ⟨args, l, n, mS.mo (fun _ _ ⟨a, n, z⟩ => ⟨a, n, hQ _ _ z⟩) (fun _ _ ⟨a, z⟩ => ⟨a, hE _ _ z⟩) q⟩) hE h⟩
end
end LV
namespace LV
open PySem PySem.Spec L2
section
variable {M : Md} {c : Ct} {F H F' H' : Hp} {σ : St} {env : En} {vs : List V} {rs : List Rv} {args args' : List Val}
theorem valL_len : ∀ {rs : List Rv} {args : List Val}, valL env rs = some args → args.length = rs.length
  | [], _, h => by cases h; rfl
  | r :: rs, args, h => by
    unfold valL at h
    cases h1 : valOf env r with
    | none => rw [h1] at h; cases h
    | some a =>
      cases h2 : valL env rs with
      | none => rw [h1, h2] at h; cases h
      | some as => rw [h1, h2] at h; cases h; rw [List.length_cons, List.length_cons, valL_len h2]
theorem valL_get : ∀ {rs : List Rv} {args : List Val} {k : Nat} {a : Val}, valL env rs = some args → args[k]? = some a → ∃ r, rs[k]? = some r ∧ valOf env r = some a
  | [], _, k, a, h, e => by cases h; simp at e
  | r :: rs, args, k, a, h, e => by
    unfold valL at h
    cases h1 : valOf env r with
    | none => rw [h1] at h; cases h
    | some b =>
      cases h2 : valL env rs with
      | none => rw [h1, h2] at h; cases h
      | some as =>
        rw [h1, h2] at h; cases h
        cases k with
        | zero => simp at e; subst e; exact ⟨r, rfl, h1⟩
        | succ k => exact valL_get (k := k) h2 (by simpa using e)
theorem ops_len : ∀ {vs : List V} {rs : List Rv}, OpsOk M F σ vs rs → vs.length = rs.length
  | [], [], _ => rfl
  | _ :: _, _ :: _, ⟨_, t⟩ => by rw [List.length_cons, List.length_cons, ops_len t]
  | [], _ :: _, h => h.elim
  | _ :: _, [], h => h.elim
theorem ops_get : ∀ {vs : List V} {rs : List Rv} {k : Nat} {r : Rv}, OpsOk M F σ vs rs → rs[k]? = some r → ∃ v, vs[k]? = some v ∧ OpOk M F σ v r
  | [], [], k, r, _, e => by simp at e
  | v :: _, _ :: _, 0, r, ⟨h, _⟩, e => by simp at e; subst e; exact ⟨v, rfl, h⟩
  | _ :: _, _ :: _, k + 1, r, ⟨_, t⟩, e => ops_get (k := k) t (by simpa using e)
  | [], _ :: _, _, _, h, _ => h.elim
  | _ :: _, [], _, _, h, _ => h.elim
theorem mem_slots : ∀ {rs : List Rv} {k i : Nat}, rs[k]? = some (.sl i) → i ∈ slotsOf rs
  | [], k, i, e => by simp at e
  | r :: rs, 0, i, e => by simp at e; subst e; exact List.mem_cons_self
  | r :: rs, k + 1, i, e => by
    have := mem_slots (rs := rs) (k := k) (i := i) (by simpa using e)
    cases r with
    | fz _ => exact this
    | ow _ => exact this
    | sl j => exact List.mem_cons_of_mem _ this
theorem slots_inj : ∀ {rs : List Rv} {j k i : Nat}, (slotsOf rs).Nodup → rs[j]? = some (.sl i) → rs[k]? = some (.sl i) → j = k
  | [], j, k, i, _, e, _ => by simp at e
  | r :: rs, 0, 0, i, n, e, e' => rfl
  | r :: rs, 0, k + 1, i, n, e, e' => by
    simp at e; subst e
    have h1 := mem_slots (rs := rs) (k := k) (i := i) (by simpa using e')
    exact absurd h1 (List.nodup_cons.mp n).1
  | r :: rs, j + 1, 0, i, n, e, e' => by
    simp at e'; subst e'
    have h1 := mem_slots (rs := rs) (k := j) (i := i) (by simpa using e)
    exact absurd h1 (List.nodup_cons.mp n).1
  | r :: rs, j + 1, k + 1, i, n, e, e' => by
    have n' : (slotsOf rs).Nodup := by
      cases r with
      | fz _ => exact n
      | ow _ => exact n
      | sl _ => exact (List.nodup_cons.mp n).2
    rw [slots_inj (rs := rs) (j := j) (k := k) n' (by simpa using e) (by simpa using e')]
theorem putL_len : ∀ {rs : List Rv} {as : List Val}, (putL env rs as).length = env.length
  | [], _ => by unfold putL; rfl
  | .fz _ :: rs, [] => rfl
  | .ow _ :: rs, [] => rfl
  | .sl _ :: rs, [] => rfl
  | .fz _ :: rs, a :: as => putL_len (rs := rs) (as := as)
  | .ow _ :: rs, a :: as => putL_len (rs := rs) (as := as)
  | .sl _ :: rs, a :: as => by
    show ((putL env rs as).set _ _).length = _
    rw [List.length_set]; exact putL_len (rs := rs) (as := as)
theorem putL_in : ∀ {rs : List Rv} {as : List Val} {k i : Nat} {a : Val}, (slotsOf rs).Nodup → rs[k]? = some (.sl i) → as[k]? = some a → i < env.length → (putL env rs as)[i]? = some (some a)
  | [], _, k, i, a, _, e, _, _ => by simp at e
  | r :: rs, [], k, i, a, _, _, e, _ => by simp at e
  | r :: rs, b :: as, 0, i, a, n, e, e', hl => by
    simp at e e'; subst e; subst e'
    show ((putL env rs as).set i (some b))[i]? = _
    rw [List.getElem?_set_self (by rw [putL_len]; exact hl)]
  | r :: rs, b :: as, k + 1, i, a, n, e, e', hl => by
    have e1 : rs[k]? = some (.sl i) := by simpa using e
    have e2 : as[k]? = some a := by simpa using e'
    cases r with
    | fz _ => exact putL_in (rs := rs) (as := as) (k := k) n e1 e2 hl
    | ow _ => exact putL_in (rs := rs) (as := as) (k := k) n e1 e2 hl
    | sl j =>
      have hj : j ≠ i := fun z => (List.nodup_cons.mp n).1 (z ▸ mem_slots e1)
      show ((putL env rs as).set j (some b))[i]? = _
      rw [List.getElem?_set_ne hj]
      exact putL_in (rs := rs) (as := as) (k := k) (List.nodup_cons.mp n).2 e1 e2 hl
theorem putL_out : ∀ {rs : List Rv} {as : List Val} {i : Nat}, i ∉ slotsOf rs → (putL env rs as)[i]? = env[i]?
  | [], _, _, _ => by unfold putL; rfl
  | .fz _ :: rs, [], _, _ => rfl
  | .ow _ :: rs, [], _, _ => rfl
  | .sl _ :: rs, [], _, _ => rfl
  | .fz _ :: rs, a :: as, i, h => putL_out (rs := rs) (as := as) (i := i) h
  | .ow _ :: rs, a :: as, i, h => putL_out (rs := rs) (as := as) (i := i) h
  | .sl j :: rs, a :: as, i, h => by
    have hj : j ≠ i := fun z => h (z ▸ List.mem_cons_self)
    show ((putL env rs as).set j (some a))[i]? = _
    rw [List.getElem?_set_ne hj]
    exact putL_out (rs := rs) (as := as) (i := i) fun z => h (List.mem_cons_of_mem _ z)
theorem slots_mem : ∀ {rs : List Rv} {i : Nat}, i ∈ slotsOf rs → ∃ k : Nat, rs[k]? = some (Rv.sl i)
  | [], i, h => by cases h
  | .fz _ :: rs, i, h => by obtain ⟨k, e⟩ := slots_mem (rs := rs) h; exact ⟨k + 1, by simpa using e⟩
  | .ow _ :: rs, i, h => by obtain ⟨k, e⟩ := slots_mem (rs := rs) h; exact ⟨k + 1, by simpa using e⟩
  | .sl j :: rs, i, h => by
    rcases List.mem_cons.mp h with e | h
    · exact ⟨0, by rw [e]; rfl⟩
    · obtain ⟨k, e⟩ := slots_mem (rs := rs) h; exact ⟨k + 1, by simpa using e⟩
theorem eV_get {k : Nat} {a : Val} : (eV args)[k]? = some (some a) ↔ args[k]? = some a := by
  unfold eV
  rw [List.getElem?_map]
  cases args[k]? <;> simp
theorem sV_get {k : Nat} {v : V} : (sV vs)[k]? = some (some v) ↔ vs[k]? = some v := by
  unfold sV
  rw [List.getElem?_map]
  cases vs[k]? <;> simp
theorem valOf_ow {r : Rv} {o : O} (h : valOf env r = some (.ow o)) : ∃ i, r = .sl i ∧ env[i]? = some (some (.ow o)) := by
  cases r with
  | fz d => cases h
  | ow o => cases h
  | sl i =>
    refine ⟨i, rfl, ?_⟩
    cases he : env[i]? with
    | none => simp only [valOf, he] at h; cases h
    | some x =>
      cases x with
      | none => simp only [valOf, he] at h; cases h
      | some y =>
        cases y with
        | ex _ _ _ _ => simp only [valOf, he] at h; cases h
        | fz d' => simp only [valOf, he] at h; cases h
        | ow o' => cases o' <;> simp only [valOf, he] at h <;> cases h <;> rfl
theorem valOf_ex {r : Rv} {a : Addr} {C : Str} {ks : List Str} {ds : List D} (h : valOf env r = some (.ex a C ks ds)) : False := by
  cases r with
  | fz d => cases h
  | ow o => cases h
  | sl i =>
    cases he : env[i]? with
    | none => simp only [valOf, he] at h; cases h
    | some x =>
      cases x with
      | none => simp only [valOf, he] at h; cases h
      | some y =>
        cases y with
        | ow o' => cases o' <;> simp only [valOf, he] at h <;> cases h
        | _ => simp only [valOf, he] at h <;> cases h
theorem valOf_inn {r : Rv} {o : O} (h : valOf env r = some (.ow o)) : o.inn = [] := by
  cases r with
  | fz d => cases h
  | ow o => cases h
  | sl i =>
    cases he : env[i]? with
    | none => simp only [valOf, he] at h; cases h
    | some x =>
      cases x with
      | none => simp only [valOf, he] at h; cases h
      | some y =>
        cases y with
        | ow o' => cases o' <;> simp only [valOf, he] at h <;> cases h <;> rfl
        | _ => simp only [valOf, he] at h <;> cases h
theorem valOf_fz {r : Rv} {d : D} {v : V} (R : Rel M c F H σ env) (o : OpOk M F σ v r) (h : valOf env r = some (.fz d)) : Rep M F v d := by
  cases r with
  | fz d => cases h; exact o
  | ow o => cases h
  | sl i =>
    have h' : σ[i]? = some (some v) := o
    cases he : env[i]? with
    | none => simp only [valOf, he] at h; cases h
    | some x =>
      cases x with
      | none => simp only [valOf, he] at h; cases h
      | some y =>
        cases y with
        | ex _ _ _ _ => simp only [valOf, he] at h; cases h
        | ow o' => cases o' <;> simp only [valOf, he] at h <;> cases h
        | fz d' =>
          simp only [valOf, he] at h; cases h
          obtain ⟨u, h1, h2⟩ := R.fz i _ he
          rw [h'] at h1; cases h1; exact h2
/-- the callee's environment -/
theorem Rel.toArgs (R : Rel M c F H σ env) (ok : OpsOk M F σ vs rs) (l : valL env rs = some args) (nd : (slotsOf rs).Nodup) : Rel M (ctN H) F H (sV vs) (eV args) := by
  have at_ : ∀ {k : Nat} {a : Val}, args[k]? = some a → ∃ r v, rs[k]? = some r ∧ valOf env r = some a ∧ vs[k]? = some v ∧ OpOk M F σ v r := fun {k a} h => by
    obtain ⟨r, h1, h2⟩ := valL_get l h
    obtain ⟨v, h3, h4⟩ := ops_get ok h1
    exact ⟨r, v, h1, h2, h3, h4⟩
  refine ⟨R.sub, ?_, fun k d h => ?_, fun k o h => ?_, fun k a C ks ds h => ?_, fun j k o u p h1 h2 h3 h4 => ?_, fun _ h => (nomatch h), fun _ _ h => (nomatch h), fun _ _ _ _ _ _ => rfl, fun k o b h hb => ?_, fun _ u h => ⟨u, h⟩⟩
  · unfold eV sV
    rw [List.length_map, List.length_map, valL_len l, ops_len ok]
  · obtain ⟨r, v, h1, h2, h3, h4⟩ := at_ (eV_get.mp h)
    exact ⟨v, sV_get.mpr h3, valOf_fz R h4 h2⟩
  · obtain ⟨r, v, h1, h2, h3, h4⟩ := at_ (eV_get.mp h)
    obtain ⟨i, rfl, h5⟩ := valOf_ow h2
    obtain ⟨p, h6, h7, h8⟩ := R.ow i o h5
    have h4' : σ[i]? = some (some v) := h4
    rw [h4'] at h6; cases h6
    exact ⟨p, sV_get.mpr h3, h7, h8⟩
  · obtain ⟨r, v, h5, h6, _⟩ := at_ (eV_get.mp h)
    exact (valOf_ex h6).elim
  · obtain ⟨r, v, a1, a2, a3, a4⟩ := at_ (eV_get.mp h1)
    obtain ⟨r', v', b1, b2, b3, b4⟩ := at_ (eV_get.mp h2)
    obtain ⟨i, rfl, a5⟩ := valOf_ow a2
    obtain ⟨i', rfl, b5⟩ := valOf_ow b2
    obtain ⟨p1, h3, h5⟩ := h3
    obtain ⟨p2, h4, h6⟩ := h4
    rw [sV_get.mp h3] at a3; cases a3
    rw [sV_get.mp h4] at b3; cases b3
    have e := R.sep i i' o u p a5 b5 ⟨p1, a4, h5⟩ ⟨p2, b4, h6⟩
    subst e
    exact slots_inj nd a1 b1
  · obtain ⟨r, v, h1, h2, h3, h4⟩ := at_ (eV_get.mp h)
    rw [valOf_inn h2] at hb; cases hb
theorem own_args (ok : OpsOk M F σ vs rs) (l : valL env rs = some args) : ∀ b, Own (sV vs) (eV args) b → ∃ i o, i ∈ slotsOf rs ∧ env[i]? = some (some (.ow o)) ∧ ∃ p, σ[i]? = some (some (.ref p)) ∧ Has p o b := fun b ⟨k, o, h1, p, h2, h8⟩ => by
  obtain ⟨r, h3, h4⟩ := valL_get l (eV_get.mp h1)
  obtain ⟨v, h5, h6⟩ := ops_get ok h3
  obtain ⟨i, rfl, h7⟩ := valOf_ow h4
  rw [sV_get.mp h2] at h5; cases h5
  exact ⟨i, o, mem_slots h3, h7, p, h6, h8⟩
/-- behind the call -/
theorem Rel.back (R : Rel M c F H σ env) (ok : OpsOk M F σ vs rs) (l : valL env rs = some args) (nd : (slotsOf rs).Nodup)
    (R' : Rel M (ctN H) F' H' (sV vs) (eV args')) (ev : Evo (Own (sV vs) (eV args)) (Own (sV vs) (eV args')) F H F' H') (bk : backOk args args' = true) :
    Rel M c F' H' σ (putL env rs args') ∧ Evo (Own σ env) (Own σ (putL env rs args')) F H F' H' ∧ (∀ b, Own σ (putL env rs args') b → Own (sV vs) (eV args') b ∨ Own σ env b) := by
  have lenA : args'.length = rs.length := (backOk_len bk).trans (valL_len l)
  have ownSub : ∀ b, Own (sV vs) (eV args) b → Own σ env b := fun b h => by
    obtain ⟨i, o, _, h2, h3⟩ := own_args ok l b h
    exact ⟨i, o, h2, h3⟩
  -- a slot among the arguments
  have inn : ∀ {i : Nat}, i ∈ slotsOf rs → ∃ (k : Nat) (v : V), rs[k]? = some (Rv.sl i) ∧ vs[k]? = some v ∧ σ[i]? = some (some v) ∧ ∃ a, args'[k]? = some a ∧ (putL env rs args')[i]? = some (some a) := fun {i} hi => by
    obtain ⟨k, hk⟩ := slots_mem hi
    obtain ⟨v, h1, h2⟩ := ops_get ok hk
    have h2' : σ[i]? = some (some v) := h2
    have hl : i < env.length := by rw [R.len]; exact (List.getElem?_eq_some_iff.mp h2').1
    have hk' : k < args'.length := by rw [lenA]; exact (List.getElem?_eq_some_iff.mp hk).1
    exact ⟨k, v, hk, h1, h2, args'[k], List.getElem?_eq_getElem hk', putL_in nd hk (List.getElem?_eq_getElem hk') hl⟩
  -- a slot that was not handed over and owns: kept
  have kept : ∀ {i : Nat} {o : O} {p b : Addr}, i ∉ slotsOf rs → env[i]? = some (some (.ow o)) → σ[i]? = some (some (.ref p)) → Has p o b → (∀ u, H b = some u → H' b = some u) ∧ F' b = none ∧ ¬ Own (sV vs) (eV args') b := fun {i o p b} hi h1 h2 hb => by
    obtain ⟨q, h3, h4, h5⟩ := R.ow i o h1
    rw [h2] at h3; cases h3
    obtain ⟨h6, u, hu⟩ := h5.has h4 b hb
    have hn : ¬ Own (sV vs) (eV args) b := fun z => by
      obtain ⟨i', o', z1, z2, z3⟩ := own_args ok l b z
      have := R.sep i i' o o' b h1 z2 ⟨p, h2, hb⟩ z3
      exact hi (this ▸ z1)
    obtain ⟨q1, q2, q3⟩ := ev.keepTemp hu h6 hn
    exact ⟨fun u' hu' => by rw [hu] at hu'; cases hu'; exact q1, q2, q3⟩
  refine ⟨⟨R'.sub, by rw [putL_len]; exact R.len, fun i d h => ?_, fun i o h => ?_, fun i a C ks ds h => ?_, fun i j o u p h1 h2 h3 h4 => ?_, R.pin, fun b u h => ?_, fun i o p h hn hp => ?_, fun i o b h hb => ?_, fun b u h => ?_⟩, ⟨ev.fs, fun b o h => ?_, fun b o h n => ev.hk b o h fun z => n (ownSub b z), ev.ht, fun b h => ?_⟩, fun b h => ?_⟩
  · by_cases hi : i ∈ slotsOf rs
    · obtain ⟨k, v, h1, h2, h3, a, h4, h5⟩ := inn hi
      rw [h5] at h; cases h
      obtain ⟨v', h6, h7⟩ := R'.fz k d (eV_get.mpr h4)
      rw [sV_get.mp h6] at h2; cases h2
      exact ⟨v, h3, h7⟩
    · rw [putL_out hi] at h
      obtain ⟨v, h1, h2⟩ := R.fz i d h
      exact ⟨v, h1, h2.same ev.fs⟩
  · by_cases hi : i ∈ slotsOf rs
    · obtain ⟨k, v, h1, h2, h3, a, h4, h5⟩ := inn hi
      rw [h5] at h; cases h
      obtain ⟨p, h6, h7, h8⟩ := R'.ow k o (eV_get.mpr h4)
      rw [sV_get.mp h6] at h2; cases h2
      exact ⟨p, h3, h7, h8⟩
    · rw [putL_out hi] at h
      obtain ⟨p, h1, h2, h3⟩ := R.ow i o h
      have k : ∀ b, Has p o b → H' b = H b ∧ F' b = none := fun b hb => by
        obtain ⟨q1, q2, q3⟩ := kept hi h h1 hb
        obtain ⟨_, u, hu⟩ := h3.has h2 b hb
        exact ⟨(q1 u hu).trans hu.symm, q2⟩
      exact ⟨p, h1, (k p .self).2, h3.same ev.fs (k p .self).1 fun b hb => k b (.inr hb)⟩
  · by_cases hi : i ∈ slotsOf rs
    · obtain ⟨k, v, h1, h2, h3, b, h4, h5⟩ := inn hi
      rw [h5] at h; cases h
      obtain ⟨_, _, _, z, _⟩ := R'.ex k a C ks ds (eV_get.mpr h4)
      exact z.elim
    · rw [putL_out hi] at h
      exact (R.ex i a C ks ds h).imp id fun ⟨cl, d, h2, h3⟩ => ⟨cl, d, h2, h3.same ev.fs⟩
  · obtain ⟨p1, h3, h5⟩ := h3
    obtain ⟨p2, h4, h6⟩ := h4
    have one : ∀ {i : Nat} {o : O} {q : Addr}, (putL env rs args')[i]? = some (some (.ow o)) → σ[i]? = some (some (.ref q)) → (i ∈ slotsOf rs ∧ ∃ k : Nat, rs[k]? = some (.sl i) ∧ (eV args')[k]? = some (some (.ow o)) ∧ (sV vs)[k]? = some (some (.ref q))) ∨ (i ∉ slotsOf rs ∧ env[i]? = some (some (.ow o))) := fun {i o q} h h' => by
      by_cases hi : i ∈ slotsOf rs
      · obtain ⟨k, v, a1, a2, a3, a, a4, a5⟩ := inn hi
        rw [a5] at h; cases h
        rw [h'] at a3; cases a3
        exact .inl ⟨hi, k, a1, eV_get.mpr a4, sV_get.mpr a2⟩
      · rw [putL_out hi] at h
        exact .inr ⟨hi, h⟩
    rcases one h1 h3 with ⟨i1, k, k1, k2, k3⟩ | ⟨i1, k1⟩
    · rcases one h2 h4 with ⟨j1, m, m1, m2, m3⟩ | ⟨j1, m1⟩
      · have e := R'.sep k m o u p k2 m2 ⟨p1, k3, h5⟩ ⟨p2, m3, h6⟩
        subst e
        rw [k1] at m1; cases m1; rfl
      · exact absurd ⟨k, o, k2, p1, k3, h5⟩ (kept j1 m1 h4 h6).2.2
    · rcases one h2 h4 with ⟨j1, m, m1, m2, m3⟩ | ⟨j1, m1⟩
      · exact absurd ⟨m, u, m2, p2, m3, h6⟩ (kept i1 k1 h3 h5).2.2
      · exact R.sep i j o u p k1 m1 ⟨p1, h3, h5⟩ ⟨p2, h4, h6⟩
  · obtain ⟨u', hu⟩ := R.old b u h
    exact ev.ht b u' hu
  · by_cases hi : i ∈ slotsOf rs
    · obtain ⟨k, v, a1, a2, a3, a, a4, a5⟩ := inn hi
      rw [a5] at h; cases h
      rw [hp] at a3; cases a3
      have hk : k < args.length := by rw [valL_len l]; exact (List.getElem?_eq_some_iff.mp a1).1
      obtain ⟨o', eo⟩ := backOk_ow bk (List.getElem?_eq_getElem hk) a4
      obtain ⟨r, b1, b2⟩ := valL_get l (List.getElem?_eq_getElem hk)
      rw [a1] at b1; cases b1
      rw [eo] at b2
      obtain ⟨i', e', b3⟩ := valOf_ow b2
      cases e'
      exact R.fr i o' p b3 hn hp
    · rw [putL_out hi] at h
      exact R.fr i o p h hn hp
  · by_cases hi : i ∈ slotsOf rs
    · obtain ⟨k, v, a1, a2, a3, a, a4, a5⟩ := inn hi
      rw [a5] at h; cases h
      exact ⟨R.newN (R'.frN k o b (eV_get.mpr a4) hb).1, R.new (R'.frN k o b (eV_get.mpr a4) hb).1⟩
    · rw [putL_out hi] at h
      exact R.frN i o b h hb
  · obtain ⟨u', hu⟩ := R.oldN b u h
    exact ev.ht b u' hu
  · rcases ev.fn b o h with z | z | z
    · exact .inl z
    · exact .inr (.inl z)
    · exact .inr (.inr (ownSub b z))
  · obtain ⟨i, o, h1, h2⟩ := h
    by_cases hi : i ∈ slotsOf rs
    · obtain ⟨k, v, a1, a2, a3, a, a4, a5⟩ := inn hi
      rw [a5] at h1; cases h1
      obtain ⟨p, h2, h3⟩ := h2
      rw [h2] at a3; cases a3
      rcases ev.aa b ⟨k, o, eV_get.mpr a4, p, sV_get.mpr a2, h3⟩ with z | z
      · exact .inl (ownSub b z)
      · exact .inr z
    · rw [putL_out hi] at h1
      exact .inl ⟨i, o, h1, h2⟩
  · obtain ⟨i, o, h1, h2⟩ := h
    by_cases hi : i ∈ slotsOf rs
    · obtain ⟨k, v, a1, a2, a3, a, a4, a5⟩ := inn hi
      rw [a5] at h1; cases h1
      obtain ⟨p, h2, h3⟩ := h2
      rw [h2] at a3; cases a3
      exact .inl ⟨k, o, eV_get.mpr a4, p, sV_get.mpr a2, h3⟩
    · rw [putL_out hi] at h1
      exact .inr ⟨i, o, h1, h2⟩
end
section
variable {X : Cx} {c : Ct} {W : WX} {e : Expr} {es : List Expr} {wl : AW} {pos p : Pos} {x : Str} {k : Nat} {f : Addr} {fd : FuncData} {ps : List Str} {S : FSpec} {dvs : List V} {ds : List Value}
theorem call_core (mS : MonoF S) (ml : MonoA wl) {σ : St} {H : Hp} {Q : VK} (h : ERd (mdX X) c W (wCall S wl) σ H Q) :
    ARd (mdX X) c W wl σ H fun vs H1 => toSp (mdX X) S vs H1 Q (WE W σ) := by
  obtain ⟨F, env, R, h⟩ := h
  refine ⟨F, env, R, ml.mo (fun rs e1 ⟨args, l, nd, q⟩ => ?_) (fun _ _ z => z) h⟩
  intro vs F1 H1 R1 ev1 ok
  refine ⟨F1, args, R1.toArgs ok l nd, mS.mo (fun r args' ⟨ln, nsl, q⟩ => ?_) (fun xx args' ⟨ln, q⟩ => ?_) q⟩
  · intro v F' H' R' ev rv
    obtain ⟨R2, ev2, ow⟩ := R1.back ok l nd R' ev ln
    refine q v F' H' R2 (ev1.trans ev2) ?_
    cases r with
    | fz d => exact rv
    | sl i => exact absurd rfl (nsl i)
    | ow o =>
      obtain ⟨pp, a1, a2, a3, a4, a5⟩ := rv
      refine ⟨pp, a1, a2, a3, fun b hb z => ?_, fun b hb => ev1.noneOf (a5 b hb)⟩
      rcases ow b z with z | z
      · exact a4 b hb z
      · obtain ⟨u, hu⟩ := R1.own_some z
        rw [a5 b hb] at hu; cases hu
  · intro cl d F' H' R' ev xo
    obtain ⟨R2, ev2, _⟩ := R1.back ok l nd R' ev ln
    exact q cl d F' H' R2 (ev1.trans ev2) xo
end
end LV
namespace LV
open PySem PySem.Spec L2
structure Ks where
  nx : En → Prop
  rt : Rv → En → Prop
  bk : En → Prop
  ct : En → Prop
  ex : XW
abbrev SW := Ks → En → Prop
structure KLe (K K' : Ks) : Prop where
  nx : ∀ e, K.nx e → K'.nx e
  rt : ∀ r e, K.rt r e → K'.rt r e
  bk : ∀ e, K.bk e → K'.bk e
  ct : ∀ e, K.ct e → K'.ct e
  ex : ∀ x e, K.ex x e → K'.ex x e
structure MonoS (w : SW) : Prop where
  mo : ∀ {K K' : Ks} {env : En}, KLe K K' → w K env → w K' env
section
variable (M : Md) (c : Ct) (W : WX) (D : Ends) (F H : Hp) (σ : St) (env : En)
def NxP (N : St → Hp → Prop) : En → Prop := fun env' => ∀ σ' F' H', Rel M c F' H' σ' env' → Evo (Own σ env) (Own σ' env') F H F' H' → N σ' H'
/-- a result, handed out of the def -/
def RetOk (M : Md) (c : Ct) (F' H' : Hp) (σ' : St) (env' : En) (v : V) : Rv → Prop
  | .fz d => Rep M F' v d
  | .ow o => ∃ p, v = .ref p ∧ F' p = none ∧ ORep M F' H' p o ∧ (∀ b, Has p o b → ¬ Own σ' env' b) ∧ c.h₀ p = none ∧ ∀ b ∈ o.inn, c.hN b = none
  | .sl _ => False
def RtP (N : VK) : Rv → En → Prop := fun r env' => ∀ v σ' F' H', Rel M c F' H' σ' env' → Evo (Own σ env) (Own σ' env') F H F' H' → RetOk M c F' H' σ' env' v r → N v H'
def XnP : XW := fun x env' => ∀ cl d σ' F' H', Rel M c F' H' σ' env' → Evo (Own σ env) (Own σ' env') F H F' H' → XOk M F' x cl d → W cl d σ' H'
def KsOf : Ks := ⟨NxP M c F H σ env D.nx, RtP M c F H σ env D.rt, NxP M c F H σ env D.bk, NxP M c F H σ env D.ct, XnP M c W F H σ env⟩
end
def SRd (M : Md) (c : Ct) (W : WX) (w : SW) : TS := fun D σ H => ∃ F env, Rel M c F H σ env ∧ w (KsOf M c W D F H σ env) env
structure SS (X : Cx) (c : Ct) (W : WX) (st : Stmt) (w : SW) : Prop where
  ps : PS X st (SRd (mdX X) c W w)
  mo : MonoS w
structure SSs (X : Cx) (c : Ct) (W : WX) (st : List Stmt) (w : SW) : Prop where
  ps : PSs X st (SRd (mdX X) c W w)
  mo : MonoS w
section
variable {M : Md} {c : Ct} {W : WX} {D : Ends} {F H F1 H1 : Hp} {σ σ1 : St} {env env1 : En}
theorem KsOf.step (e : Evo (Own σ env) (Own σ1 env1) F H F1 H1) : KLe (KsOf M c W D F H σ env) (KsOf M c W D F1 H1 σ1 env1) where
  nx := fun _ h σ' F' H' R' e' => h σ' F' H' R' (e.trans e')
  rt := fun _ _ h v σ' F' H' R' e' ok => h v σ' F' H' R' (e.trans e') ok
  bk := fun _ h σ' F' H' R' e' => h σ' F' H' R' (e.trans e')
  ct := fun _ h σ' F' H' R' e' => h σ' F' H' R' (e.trans e')
  ex := fun _ _ h cl d σ' F' H' R' e' ok => h cl d σ' F' H' R' (e.trans e') ok
theorem SRd.post {w : SW} (m : MonoS w) (R : Rel M c F1 H1 σ1 env1) (e : Evo (Own σ env) (Own σ1 env1) F H F1 H1) (h : w (KsOf M c W D F H σ env) env1) : SRd M c W w D σ1 H1 :=
  ⟨F1, env1, R, m.mo (KsOf.step e) h⟩
theorem XnP.xp {x : Xn} {env' : En} (h : XnP M c W F H σ env x env') : XPost M c W F H σ env x env' := fun cl d F' H' R e ok => h cl d σ F' H' R e ok
end
theorem KLe.refl (K : Ks) : KLe K K := ⟨fun _ h => h, fun _ _ h => h, fun _ h => h, fun _ h => h, fun _ _ h => h⟩
theorem KLe.withNx {K K' : Ks} (h : KLe K K') {n n' : En → Prop} (i : ∀ e, n e → n' e) : KLe { K with nx := n } { K' with nx := n' } := ⟨i, h.rt, h.bk, h.ct, h.ex⟩
section
variable {X : Cx} {c : Ct} {W : WX} {e a b : Expr} {w wa wb : EW} {u : TW} {s1 s2 : SW} {st : Stmt} {rest sa sb : List Stmt} {pos : Pos}
def wSkip : SW := fun K env => K.nx env
def wSeq (s1 s2 : SW) : SW := fun K env => s1 { K with nx := fun e => s2 K e } env
theorem MonoS.skip : MonoS wSkip := ⟨fun k h => k.nx _ h⟩
theorem MonoS.seq (m : MonoS s1) (n : MonoS s2) : MonoS (wSeq s1 s2) := ⟨fun k h => m.mo (k.withNx fun e q => n.mo k q) h⟩
theorem sss_nil : SSs X c W [] wSkip := ⟨PSs.imp pss_nil fun D σ H h => by
  obtain ⟨F, env, R, h⟩ := h
  exact h σ F H R Evo.refl, .skip⟩
theorem sss_one (h : SS X c W st s1) : SSs X c W [st] s1 := ⟨pss_one h.ps, h.mo⟩
theorem sss_cons (h : SS X c W st s1) (h2 : SSs X c W rest s2) : SSs X c W (st :: rest) (wSeq s1 s2) := by
  refine ⟨PSs.imp (pss_cons h.ps h2.ps) fun D σ H q => ?_, .seq h.mo h2.mo⟩
  obtain ⟨F, env, R, q⟩ := q
  refine ⟨F, env, R, h.mo.mo (K := { KsOf (mdX X) c W D F H σ env with nx := fun e => s2 (KsOf (mdX X) c W D F H σ env) e }) ⟨fun e q => ?_, fun _ _ z => z, fun _ z => z, fun _ z => z, fun _ _ z => z⟩ q⟩
  intro σ' F' H' R' ev
  exact SRd.post h2.mo R' ev q
def wBrk : SW := fun K env => K.bk env
def wCnt : SW := fun K env => K.ct env
def wExp (w : EW) : SW := fun K env => w env (fun _ e => K.nx e) K.ex
theorem ss_expr (h : SE X c W e w) (hs : swapsWith e none pos.line X.env = pure false := by rfl) : SS X c W (.Expr e pos) (wExp w) := by
  refine ⟨PS.imp (ps_expr h.pe hs) fun D σ H q => ?_, ⟨fun k q => h.mo.mo (fun _ _ z => k.nx _ z) (fun _ _ z => k.ex _ _ z) q⟩⟩
  obtain ⟨F, env, R, q⟩ := q
  exact ⟨F, env, R, h.mo.mo (fun r e z v F' H' R' ev _ => z σ F' H' R' ev) (fun _ _ z => z.xp) q⟩
def wIf (u : TW) (s1 s2 : SW) : SW := fun K env => u env (fun b e => if b = true then s1 K e else s2 K e) K.ex
theorem MonoS.iff (m : MonoT u) (m1 : MonoS s1) (m2 : MonoS s2) : MonoS (wIf u s1 s2) := ⟨fun k h => m.mo (fun b e q => by
  cases b with
  | true => exact m1.mo k q
  | false => exact m2.mo k q) (fun _ _ z => k.ex _ _ z) h⟩
theorem ss_if (h : ST X c W e u) (h1 : SSs X c W sa s1) (h2 : SSs X c W sb s2) : SS X c W (.If e sa sb pos) (wIf u s1 s2) := by
  refine ⟨PS.imp (ps_if h.pt h1.ps h2.ps) fun D σ H q => ?_, .iff h.mo h1.mo h2.mo⟩
  obtain ⟨F, env, R, q⟩ := q
  refine ⟨F, env, R, h.mo.mo (fun b e q => ?_) (fun _ _ z => z.xp) q⟩
  intro F' H' R' ev
  cases b with
  | true => exact SRd.post h1.mo R' ev q
  | false => exact SRd.post h2.mo R' ev q
/-- return e -/
def retR (pn : List Nat) (r : Rv) (env : En) (N : Rv → En → Prop) : Prop :=
  match r with
  | .fz d => N (.fz d) env
  | .ow o => N (.ow o) env
  | .sl i => match env[i]? with
    | some (some (.fz d)) => N (.fz d) env
    | some (some (.ow o)) => if i ∈ pn then N (.fz o.d) (env.set i (some (.fz o.d))) else N (.ow o) (env.set i none)
    | _ => False
def wRet (pn : List Nat) (w : EW) : SW := fun K env => w env (fun r e => retR pn r e K.rt) K.ex
theorem retR_mono {pn : List Nat} {r : Rv} {env : En} {N N' : Rv → En → Prop} (h : ∀ r e, N r e → N' r e) (q : retR pn r env N) : retR pn r env N' := by
  cases r with
  | fz d => exact h _ _ q
  | ow o => exact h _ _ q
  | sl i =>
    unfold retR at q ⊢
    dsimp only at q ⊢
    split at q
    · exact h _ _ q
    · split at q
      · rename_i hi; rw [if_pos hi]; exact h _ _ q
      · rename_i hi; rw [if_neg hi]; exact h _ _ q
    · exact q
theorem ss_ret (h : SE X c W e w) : SS X c W (.Return (some e) pos) (wRet c.pn w) := by
  refine ⟨PS.imp (ps_ret h.pe) fun D σ H q => ?_, ⟨fun k q => h.mo.mo (fun _ _ z => retR_mono (fun _ _ z => k.rt _ _ z) z) (fun _ _ z => k.ex _ _ z) q⟩⟩
  obtain ⟨F, env, R, q⟩ := q
  refine ⟨F, env, R, h.mo.mo (fun r e z => ?_) (fun _ _ z => z.xp) q⟩
  intro v F' H' R' ev ok
  cases r with
  | fz d => exact z v σ F' H' R' ev ok
  | ow o =>
    obtain ⟨p, a1, a2, a3, a4, a5⟩ := ok
    exact z v σ F' H' R' ev ⟨p, a1, a2, a3, a4, R.new (a5 p .self), fun b hb => R.newN (a5 b (.inr hb))⟩
  | sl i =>
    obtain ⟨h1, o, h2⟩ := ok
    simp only [retR, h2] at z
    obtain ⟨p, h3, h4, h5⟩ := R'.ow i o h2
    rw [h1] at h3; cases h3
    split at z
    · obtain ⟨q, F2, a1, a2, a3, a4, _⟩ := R'.freeze h2
      rw [h1] at a1; cases a1
      exact z _ σ F2 H' a2 (ev.trans a4) a3
    · rename_i hpn
      refine z _ σ F' H' (R'.forget i) (ev.trans (Evo.sub own_forget)) ⟨p, rfl, h4, h5, fun b hb zz => ?_, R'.fr i o p h2 hpn h1, fun b hb => (R'.frN i o b h2 hb).1⟩
      obtain ⟨j, o', z1, z2⟩ := zz
      by_cases eq : i = j
      · subst eq
        rw [List.getElem?_set_self (List.getElem?_eq_some_iff.mp h2).1] at z1
        cases z1
      · rw [List.getElem?_set_ne eq] at z1
        exact eq (R'.sep i j o o' b h2 z1 ⟨p, h1, hb⟩ z2)
def wRetN : SW := fun K env => K.rt (.fz .non) env
def setR (i : Nat) (r : Rv) (env : En) (N : En → Prop) : Prop :=
  match r with
  | .fz d => N (env.set i (some (.fz d)))
  | .ow o => N (env.set i (some (.ow o)))
  | .sl j => if i = j then N env else ∃ d e2, frz1 env (.sl j) = some (d, e2) ∧ N (e2.set i (some (.fz d)))
theorem setR_mono {i : Nat} {r : Rv} {env : En} {N N' : En → Prop} (h : ∀ e, N e → N' e) (q : setR i r env N) : setR i r env N' := by
  cases r with
  | fz d => exact h _ q
  | ow o => exact h _ q
  | sl j =>
    unfold setR at q ⊢
    dsimp only at q ⊢
    split
    · rename_i e; rw [if_pos e] at q; exact h _ q
    · rename_i e; rw [if_neg e] at q
      obtain ⟨d, e2, a, q⟩ := q
      exact ⟨d, e2, a, h _ q⟩
def wSet (i : Nat) (w : EW) : SW := fun K env => w env (fun r e => setR i r e K.nx) K.ex
section
variable {M : Md} {F H F' H' : Hp} {σ : St} {env : En}
theorem Rel.setFz' (R : Rel M c F H σ env) {i : Nat} {v : V} {d : D} (hi : i ∉ c.pn) (r : Rep M F v d) : Rel M c F H (σ.set i (some v)) (env.set i (some (.fz d))) := by
  by_cases hl : i < σ.length
  · exact R.setFz hi hl r
  · rw [List.set_eq_of_length_le (by omega), List.set_eq_of_length_le (by rw [R.len]; omega)]
    exact R
theorem Rel.setOw' (R : Rel M c F H σ env) {i : Nat} {p : Addr} {o : O} (hi : i ∉ c.pn) (hp : F p = none) (r : ORep M F H p o) (hn : ∀ b, Has p o b → ¬ Own σ env b) (h0 : c.h₀ p = none) (hN : ∀ b ∈ o.inn, c.hN b = none ∧ c.h₀ b = none) : Rel M c F H (σ.set i (some (.ref p))) (env.set i (some (.ow o))) := by
  by_cases hl : i < σ.length
  · exact R.setOw hi hl hp r hn h0 hN
  · rw [List.set_eq_of_length_le (by omega), List.set_eq_of_length_le (by rw [R.len]; omega)]
    exact R
/-- what the store of r into slot i comes to -/
theorem setR_ok {Fs Hs : Hp} {σs : St} {es : En} {r : Rv} {v : V} {N : En → Prop} {i : Nat} (hi : i ∉ c.pn) (Rs : Rel M c Fs Hs σs es) (R : Rel M c F H σ env) (ev : Evo (Own σs es) (Own σ env) Fs Hs F H) (ok : RvOk M F H Hs σ env v r) (q : setR i r env N) :
    ∃ F' env', N env' ∧ Rel M c F' H (σ.set i (some v)) env' ∧ Evo (Own σs es) (Own (σ.set i (some v)) env') Fs Hs F' H := by
  cases r with
  | fz d => exact ⟨F, _, q, R.setFz' hi ok, ev.trans (Evo.sub own_setFz)⟩
  | ow o =>
    obtain ⟨p, rfl, a2, a3, a4, a5⟩ := ok
    refine ⟨F, _, q, R.setOw' hi a2 a3 a4 (Rs.new (a5 p .self)) (fun b hb => ⟨Rs.newN (a5 b (.inr hb)), Rs.new (a5 b (.inr hb))⟩), ⟨ev.fs, ev.fn, ev.hk, ev.ht, fun b hb => ?_⟩⟩
    rcases own_setOw b hb with z | z
    · exact ev.aa b z
    · exact .inr (a5 b z)
  | sl j =>
    obtain ⟨h1, o, h2⟩ := ok
    unfold setR at q
    dsimp only at q
    split at q
    · rename_i e
      subst e
      have : σ.set i (some v) = σ := by
        apply List.ext_getElem?
        intro k
        by_cases hk : i = k
        · subst hk
          rw [List.getElem?_set_self (List.getElem?_eq_some_iff.mp h1).1, h1]
        · rw [List.getElem?_set_ne hk]
      rw [this]
      exact ⟨F, env, q, R, ev⟩
    · obtain ⟨d, e2, a, q⟩ := q
      obtain ⟨F', R', ev', r'⟩ := frz1_ok (r := .sl j) R h1 a
      exact ⟨F', _, q, R'.setFz' hi r', (ev.trans ev').trans (Evo.sub own_setFz)⟩
end
theorem ss_set {i : Nat} {x : Str} {pos' : Pos} (hi : i ∉ c.pn) (hN : X.N.Nodup) (hx : X.N[i]? = some x) (hl : Loc X.env.scope x) (h : SE X c W e w) (hs : swapsWith e (some (.Name x pos')) pos.line X.env = pure false := by rfl)
    (hf : X.fn x = true ∨ X.env.scope.names.lookup x = some .local := by first | exact .inl rfl | exact .inr rfl | assumption) : SS X c W (.Assign [.Name x pos'] e pos) (wSet i w) := by
  refine ⟨PS.imp (ps_set hN hx hl h.pe hs hf) fun D σ H q => ?_, ⟨fun k q => h.mo.mo (fun _ _ z => setR_mono (fun _ z => k.nx _ z) z) (fun _ _ z => k.ex _ _ z) q⟩⟩
  obtain ⟨F, env, R, q⟩ := q
  refine ⟨F, env, R, h.mo.mo (fun r e z => ?_) (fun _ _ z => z.xp) q⟩
  intro v F' H' R' ev ok
  obtain ⟨F2, e2, n, R2, ev2⟩ := setR_ok hi R R' ev ok z
  exact n _ F2 H' R2 ev2
def wApp (i : Nat) (w : EW) : SW := fun K env => (∃ ds0, env[i]? = some (some (.ow (.lst ds0)))) ∧ wFz w env (fun r e => ∃ ds d e2, r ≠ .sl i ∧ frz1 e r = some (d, e2) ∧ e2[i]? = some (some (.ow (.lst ds))) ∧ ds.length < sizeLine ∧ K.nx (e2.set i (some (.ow (.lst (ds ++ [d])))))) K.ex
theorem ss_app {i : Nat} {x : Str} {p1 p2 p3 : Pos} (h : SE X c W e w) (hx : X.N[i]? = some x := by rfl) (hv : Vis X.env.scope x := by first | exact Or.inl rfl | exact Or.inr (Or.inl rfl) | exact Or.inr (Or.inr rfl))
    (hd : (x == ("__debug__" : Str)) = false := by decide) (hcd : (x == ("__classdict__" : Str)) = false := by decide)
    (hbase : attributeBase (.Name x p1) "append" X.env (eval (.Name x p1) X.env) = eval (.Name x p1) X.env := by rfl)
    (hfew : ((backTo p3 (starEach [e] X.env)).all (fun x => !x.1) && (backToKw p3 (keywordEach [] X.env)).all (fun x => x.1.isSome)
      && decide ([e].length + ([] : List Keyword).length + (if ([] : List Keyword).isEmpty then 0 else 1) < 30)) = true := by rfl)
    (hline : (p2.endLine == p3.line) = true := by rfl) (hs : starEach [e] X.env = (false, eval e X.env) :: starEach [] X.env := by rfl) (hplain : (backTo p3 (starEach [] X.env)).any (·.1) = false := by rfl)
    (hsw : swapsWith (.Call (.Attribute (.Name x p1) "append" p2) [e] [] p3) none pos.line X.env = pure false := by rfl) :
    SS X c W (.Expr (.Call (.Attribute (.Name x p1) "append" p2) [e] [] p3) pos) (wApp i w) := by
  refine ⟨PS.imp (ps_expr (pe_bm PySem.F.plainAttrs_list PySem.F.slot_list_append PySem.F.type_list_append mt_append (pe_var hx hv hd hcd) (pa_cons h.pe pa_nil hs) hbase hfew hline hs hplain) hsw) fun D σ H q => ?_,
    ⟨fun k ⟨q0, q⟩ => ⟨q0, h.mo.fz.mo (fun _ _ ⟨ds, d, e2, n, a, b, l, z⟩ => ⟨ds, d, e2, n, a, b, l, k.nx _ z⟩) (fun _ _ z => k.ex _ _ z) q⟩⟩⟩
  obtain ⟨F, env, R, ⟨ds0, q0⟩, q⟩ := q
  obtain ⟨p, hp, hpF, xs0, hpH, _⟩ := R.ow i _ q0
  refine ⟨.ref p, hp, .inl ⟨rfl, xs0, .inl (.inl hpH)⟩, ?_⟩
  refine opd h.mo R (h.mo.fz.mo (fun _ _ z => z) (fun _ _ z => z.xp) q) fun r e1 v F1 H1 R1 ev1 ok1 ⟨ds, d, e2, ne, a, b, l, z⟩ => ?_
  obtain ⟨F2, R2, ev2, rv⟩ := frz1_ok R1 ok1 a
  obtain ⟨p', h1, h2, xs, h3, h4⟩ := R2.ow i _ b
  rw [hp] at h1; cases h1
  refine ⟨p, xs, v, rfl, rfl, h3, by rw [h4.length]; exact l, ?_⟩
  obtain ⟨R3, ev3⟩ := R2.write (o' := .lst (ds ++ [d])) (u := .lst (xs ++ [v])) b hp ⟨_, upd_same, h4.append (.cons rv .nil)⟩
  exact z σ F2 _ R3 ((ev1.trans ev2).trans ev3)
def wSetIx (i : Nat) (w wi : EW) : SW := fun K env => wFz w env (fun r e1 => (∃ v0, e1[i]? = some (some v0)) ∧ wFz wi e1 (fun ri e2 => ∃ k j ds d e3, look e2 ri = some (.int k) ∧ r ≠ .sl i ∧ frz1 e2 r = some (d, e3) ∧ e3[i]? = some (some (.ow (.lst ds))) ∧ ixN ds.length k = some j ∧ K.nx (e3.set i (some (.ow (.lst (ds.set j d)))))) K.ex) K.ex
theorem ss_setIx {i : Nat} {x : Str} {ei : Expr} {wi : EW} {p1 p2 : Pos} (h : SE X c W e w) (hi : SE X c W ei wi) (hx : X.N[i]? = some x := by rfl) (hv : Vis X.env.scope x := by first | exact Or.inl rfl | exact Or.inr (Or.inl rfl) | exact Or.inr (Or.inr rfl))
    (hd : (x == ("__debug__" : Str)) = false := by decide) (hcd : (x == ("__classdict__" : Str)) = false := by decide)
    (ha : ∀ v, assign (.Subscript (.Name x p1) ei p2) X.env v = (do
      let ov ← holding [v] (eval (.Name x p1) X.env)
      let iv ← holding [v, ov] (eval ei X.env)
      standAt p2
      holding [v, ov, iv] (setItem ov iv v)
      release [v, ov, iv] []) := by intro _; rfl)
    (hs : swapsWithSole [.Subscript (.Name x p1) ei p2] e pos.line X.env = pure false := by rfl) (hw : swappedStores [.Subscript (.Name x p1) ei p2] e X.env = pure none := by rfl)
    (h1 : (assignEach [.Subscript (.Name x p1) ei p2] X.env).map (·.2) = [assign (.Subscript (.Name x p1) ei p2) X.env] := by rfl) :
    SS X c W (.Assign [.Subscript (.Name x p1) ei p2] e pos) (wSetIx i w wi) := by
  refine ⟨PS.imp (ps_asg h.pe (pg_sub (pe_var hx hv hd hcd) hi.pe set_list ha) hs hw h1) fun D σ H q => ?_,
    ⟨fun k q => h.mo.fz.mo (fun _ _ ⟨q0, q⟩ => ⟨q0, hi.mo.fz.mo (fun _ _ ⟨k1, j, ds, d, e3, l, n, a, b, ll, z⟩ => ⟨k1, j, ds, d, e3, l, n, a, b, ll, k.nx _ z⟩) (fun _ _ z => k.ex _ _ z) q⟩) (fun _ _ z => k.ex _ _ z) q⟩⟩
  obtain ⟨F, env, R, q⟩ := q
  refine opd h.mo R (h.mo.fz.mo (fun _ _ z => z) (fun _ _ z => z.xp) q) fun r e1 v F1 H1 R1 ev1 ok1 ⟨⟨v0, q0⟩, q1⟩ => ?_
  have hσ : ∃ v1, σ[i]? = some (some v1) := by
    cases v0 with
    | fz d => obtain ⟨v1, h1, _⟩ := R1.fz i d q0; exact ⟨v1, h1⟩
    | ow o => obtain ⟨p, h1, _⟩ := R1.ow i o q0; exact ⟨_, h1⟩
    | ex a C ks vs => exact ⟨_, (R1.ex i a C ks vs q0).1⟩
  obtain ⟨v1, hv1⟩ := hσ
  refine ⟨v1, hv1, ?_⟩
  refine opd hi.mo R1 (hi.mo.fz.mo (fun _ _ z => z) (fun _ _ z => XPost.step ev1 z.xp) q1) fun ri e2 vi F2 H2 R2 ev2 ok2 ⟨k, j, ds, d, e3, l, ne, a, b, ij, z⟩ => ?_
  have hvi := ok2.vw R2 l
  cases (show vi = .int k from hvi)
  obtain ⟨F3, R3, ev3, rv⟩ := frz1_ok R2 (ok1.same ev2.fs) a
  obtain ⟨p, h1, h2, xs, h3, h4⟩ := R3.ow i _ b
  rw [hv1] at h1; cases h1
  refine ⟨p, xs, k, j, rfl, rfl, h3, by rw [h4.length]; exact ij, ?_⟩
  obtain ⟨R4, ev4⟩ := R3.write (o' := .lst (ds.set j d)) (u := .lst (xs.set j v)) b hv1 ⟨_, upd_same, h4.set rv j⟩
  exact z σ F3 _ R4 (((ev1.trans ev2).trans ev3).trans ev4)
inductive Tg where
  | n (i : Nat)
  | t (is : List Nat)
def Tg.slots : Tg → List Nat
  | .n i => [i]
  | .t is => is
def gNs : List Nat → TGs
  | [] => gNil
  | i :: is => gCons (gName i) (gNs is)
def gT (K : PySem.W.Frag) : Tg → TG
  | .n i => gName i
  | .t is => gTup K is.length (gNs is)
def bindS (env : En) : List Nat → List D → Option En
  | [], [] => some env
  | i :: is, d :: ds => bindS (env.set i (some (.fz d))) is ds
  | _, _ => none
def bindT (tg : Tg) (d : D) (env : En) : Option En :=
  match tg, d with
  | .n i, d => some (env.set i (some (.fz d)))
  | .t is, .tup ds => bindS env is ds
  | _, _ => none
def stS (σ : St) : List Nat → List V → St
  | i :: is, v :: vs => stS (σ.set i (some v)) is vs
  | _, _ => σ
theorem bindS_ok {M : Md} {F H : Hp} : ∀ {is : List Nat} {ds : List D} {vs : List V} {σ : St} {env env' : En} {Q : St → Hp → Prop}, (∀ i ∈ is, i ∉ c.pn) → Rel M c F H σ env → RepL M F vs ds → bindS env is ds = some env' →
    (Rel M c F H (stS σ is vs) env' → (∀ b, Own (stS σ is vs) env' b → Own σ env b) → Q (stS σ is vs) H) → gNs is vs σ H Q
  | [], [], [], σ, env, env', Q, _, R, _, e, q => by cases e; exact ⟨rfl, q R fun _ h => h⟩
  | i :: is, d :: ds, v :: vs, σ, env, env', Q, hi, R, .cons r rs, e, q => by
    refine ⟨v, vs, rfl, ?_⟩
    refine bindS_ok (is := is) (ds := ds) (fun j hj => hi j (List.mem_cons_of_mem _ hj)) (R.setFz' (hi i List.mem_cons_self) r) rs e fun R' ow => ?_
    exact q R' fun b hb => own_setFz b (ow b hb)
  | [], _ :: _, _, _, _, _, _, _, _, _, e, _ => by cases e
  | _ :: _, [], _, _, _, _, _, _, _, _, e, _ => by cases e
def stT (tg : Tg) (x : V) (vs : List V) (σ : St) : St :=
  match tg with
  | .n i => σ.set i (some x)
  | .t is => stS σ is vs
theorem bindT_ok {M : Md} {F H : Hp} {tg : Tg} {x : V} {d : D} {σ : St} {env env' : En} {Q : St → Hp → Prop} (hi : ∀ i ∈ tg.slots, i ∉ c.pn) (R : Rel M c F H σ env) (r : Rep M F x d) (e : bindT tg d env = some env')
    (q : ∀ vs, Rel M c F H (stT tg x vs σ) env' → (∀ b, Own (stT tg x vs σ) env' b → Own σ env b) → Q (stT tg x vs σ) H) : gT M.K tg x σ H Q := by
  cases tg with
  | n i =>
    cases e
    exact q [] (R.setFz' (hi i List.mem_cons_self) r) fun b hb => own_setFz b hb
  | t is =>
    cases r with
    | @tup a xs ds h rl =>
      have hl : xs.length = is.length := by
        rw [rl.length]
        have : ∀ {is : List Nat} {ds : List D} {env : En}, bindS env is ds = some env' → ds.length = is.length := by
          intro is
          induction is with
          | nil => intro ds env h; cases ds with
            | nil => rfl
            | cons _ _ => cases h
          | cons i is ih => intro ds env h; cases ds with
            | nil => cases h
            | cons d ds => rw [List.length_cons, List.length_cons, ih h]
        exact this e
      exact ⟨a, xs, rfl, Same.sqT R.sub h, hl, bindS_ok hi R rl e (q xs)⟩
    | _ => cases e
/-- the targets' own derivation -/
structure SG (X : Cx) (e : Expr) (tg : Tg) : Prop where
  pg : PG X e (gT X.K tg)
theorem sg_name {i : Nat} {x : Str} (hN : X.N.Nodup) (hi : X.N[i]? = some x) (hx : Loc X.env.scope x) (hf : X.fn x = true ∨ X.env.scope.names.lookup x = some .local := by first | exact .inl rfl | exact .inr rfl | assumption) : SG X (.Name x pos) (.n i) := ⟨pg_name hN hi hx hf⟩
theorem sg_tup {es : List Expr} {k : Nat} {is : List Nat} (hc : X.calm = true) (h : PGs X es (gNs is)) (hn : (assignEach es X.env).length = is.length := by rfl) (hst : (assignEach es X.env).findIdx? (·.1) = none := by rfl) : SG X (.Tuple es k pos) (.t is) := ⟨pg_tup hc h hn hst⟩
abbrev KeepE := En → Prop
abbrev IW := En → (List D → KeepE → En → Prop) → XW → Prop
structure MonoI (w : IW) : Prop where
  mo : ∀ {env : En} {Q Q' : List D → KeepE → En → Prop} {E E' : XW}, (∀ xs k e, Q xs k e → Q' xs k e) → (∀ x e, E x e → E' x e) → w env Q E → w env Q' E'
/-- the iterator J gives the items xs, in any later state where keep holds -/
structure Walks (M : Md) (c : Ct) (F : Hp) (J : It) (xs : List D) (keep : KeepE) : Prop where
  stop : ∀ F' H' σ' env', Rel M c F' H' σ' env' → Same F F' → keep env' → ∀ i, xs.length ≤ i → J.stop i H'
  go : ∀ F' H' σ' env', Rel M c F' H' σ' env' → Same F F' → keep env' → ∀ i d, xs[i]? = some d → J.go i H' ∧ ∀ x H'', J.yld i H' x H'' → ∃ F'', Same F'' H'' ∧ Evo Nob Nob F' H' F'' H'' ∧ Rep M F'' x d
def IRd (M : Md) (c : Ct) (W : WX) (w : IW) : TI := fun σ H R => ∃ F env, Rel M c F H σ env ∧ w env (fun xs keep env' => ∀ F' H' J, Rel M c F' H' σ env' → Evo (Own σ env) (Own σ env') F H F' H' → Walks M c F' J xs keep → R J H') (XPost M c W F H σ env)
structure SI (X : Cx) (c : Ct) (W : WX) (tg iter : Expr) (w : IW) : Prop where
  pi : PI X tg iter (IRd (mdX X) c W w)
  mo : MonoI w
def loopW (tg : Tg) (body : SW) (keep : KeepE) (K : Ks) : List D → En → Prop
  | [], env => keep env ∧ K.nx env
  | d :: ds, env => keep env ∧ ∃ e1, bindT tg d env = some e1 ∧ body { K with nx := loopW tg body keep K ds, ct := loopW tg body keep K ds, bk := K.nx } e1
theorem loopW_mono {tg : Tg} {body : SW} {keep : KeepE} {K K' : Ks} (m : MonoS body) (k : KLe K K') : ∀ {ds : List D} {env : En}, loopW tg body keep K ds env → loopW tg body keep K' ds env
  | [], _, ⟨a, h⟩ => ⟨a, k.nx _ h⟩
  | d :: ds, _, ⟨a, e1, b, h⟩ => ⟨a, e1, b, m.mo (K := { K with nx := loopW tg body keep K ds, ct := loopW tg body keep K ds, bk := K.nx }) ⟨fun _ q => loopW_mono m k q, k.rt, k.nx, fun _ q => loopW_mono m k q, k.ex⟩ h⟩
def wFor (tg : Tg) (it : IW) (body : SW) : SW := fun K env => it env (fun xs keep e => loopW tg body keep K xs e) K.ex
theorem PI.imp {X : Cx} {tg e : Expr} {t t' : TI} (h : PI X tg e t) (i : ∀ σ H Q, t' σ H Q → t σ H Q) : PI X tg e t' := ⟨fun pins s σ H Q I q => h.run pins s σ H Q I (i σ H Q q)⟩
theorem ss_for {tgE iter : Expr} {body : List Stmt} {tg : Tg} {it : IW} {wb : SW} (hp : PassesOwn (model X.prog X.w) X.A X.env X.xe) (hc : X.calm = true) (hi : SI X c W tgE iter it) (hg : SG X tgE tg) (hpn : ∀ i ∈ tg.slots, i ∉ c.pn) (hb : SSs X c W body wb)
    (hs : ∀ x, foldedSetIterable iter X.env x = pure x := by intro _; rfl) : SS X c W (.For tgE iter body [] pos) (wFor tg it wb) := by
  refine ⟨PS.imp (ps_for hp hc hi.pi hg.pg hb.ps hs) fun D σ H q => ?_, ⟨fun k q => hi.mo.mo (fun _ _ _ z => loopW_mono hb.mo k z) (fun _ _ z => k.ex _ _ z) q⟩⟩
  obtain ⟨F, env, R, q⟩ := q
  refine ⟨F, env, R, hi.mo.mo (fun xs keep e1 z => ?_) (fun _ _ z => z.xp) q⟩
  intro F1 H1 J R1 ev1 wk
  refine ⟨fun i m σ' H' => m = xs.length - i ∧ i ≤ xs.length ∧ ∃ F' env', Rel (mdX X) c F' H' σ' env' ∧ Same F1 F' ∧ Evo (Own σ env) (Own σ' env') F H F' H' ∧ loopW tg wb keep (KsOf (mdX X) c W D F H σ env) (xs.drop i) env',
    ⟨xs.length, by simp, Nat.zero_le _, F1, e1, R1, Same.refl _, ev1, z⟩, ?_⟩
  rintro i m σ' H' ⟨rfl, hi, F', env', R', sm, ev, lw⟩
  by_cases hlt : i < xs.length
  · have hd : xs.drop i = xs[i] :: xs.drop (i + 1) := List.drop_eq_getElem_cons hlt
    rw [hd] at lw
    obtain ⟨kp, e2, hb2, lw⟩ := lw
    obtain ⟨go, yld⟩ := wk.go F' H' σ' env' R' sm kp i xs[i] (List.getElem?_eq_getElem hlt)
    refine .inr ⟨go, fun σ'' H'' => i + 1 ≤ xs.length ∧ ∃ F'' env'', Rel (mdX X) c F'' H'' σ'' env'' ∧ Same F1 F'' ∧ Evo (Own σ env) (Own σ'' env'') F H F'' H'' ∧ loopW tg wb keep (KsOf (mdX X) c W D F H σ env) (xs.drop (i + 1)) env'',
      fun σ'' H'' ⟨h1, h2⟩ => ⟨xs.length - (i + 1), by omega, rfl, h1, h2⟩, fun x H'' hy => ?_⟩
    obtain ⟨F2, s2, ev2, rx⟩ := yld x H'' hy
    have R2 := R'.evo ev2 s2
    refine bindT_ok hpn R2 rx hb2 fun vs R3 ow3 => ?_
    have ev3 : Evo (Own σ env) (Own (stT tg x vs σ') e2) F H F2 H'' := (ev.trans ev2.nob).trans (Evo.sub ow3)
    have sm3 : Same F1 F2 := sm.trans ev2.fs
    refine ⟨F2, e2, R3, hb.mo.mo (K := { KsOf (mdX X) c W D F H σ env with nx := loopW tg wb keep (KsOf (mdX X) c W D F H σ env) (xs.drop (i + 1)), ct := loopW tg wb keep (KsOf (mdX X) c W D F H σ env) (xs.drop (i + 1)), bk := NxP (mdX X) c F H σ env D.nx }) ⟨fun e q σ4 F4 H4 R4 ev4 => ?_, fun r e q v σ4 F4 H4 R4 ev4 ok => q v σ4 F4 H4 R4 (ev3.trans ev4) ok, fun e q σ4 F4 H4 R4 ev4 => q σ4 F4 H4 R4 (ev3.trans ev4), fun e q σ4 F4 H4 R4 ev4 => ?_, fun x e q cl d σ4 F4 H4 R4 ev4 ok => q cl d σ4 F4 H4 R4 (ev3.trans ev4) ok⟩ lw⟩
    · exact ⟨hlt, F4, e, R4, sm3.trans ev4.fs, ev3.trans ev4, q⟩
    · exact ⟨hlt, F4, e, R4, sm3.trans ev4.fs, ev3.trans ev4, q⟩
  · have e : i = xs.length := by omega
    subst e
    rw [List.drop_length] at lw
    obtain ⟨kp, lw⟩ := lw
    exact .inl ⟨wk.stop F' H' σ' env' R' sm kp _ (Nat.le_refl _), lw σ' F' H' R' ev⟩
end
end LV
namespace LV
open PySem PySem.Spec L2 RZ
def iAny (K : PySem.W.Frag) (te : TE) : TI := fun σ H R => te σ H fun x H1 => (∃ a, x = .ref a ∧ (∃ xs, SqL K H1 a xs) ∧ R (Itl K a) H1) ∨ (∃ a, x = .ref a ∧ (∃ xs, SqT K H1 a xs) ∧ R (Itt K a) H1) ∨ (∃ z, x = .str z ∧ R (Its z) H1)
theorem pi_anyS {X : Cx} {tg e : Expr} {te : TE} (he : PE X e te) : PI X tg e (iAny X.K te) := by
  refine ⟨fun pins s σ H R I h => ?_⟩
  refine thn (he.run pins s σ H _ I h) fun v s1 ⟨x, H1, I1, r1, q1⟩ => ?_
  rcases q1 with ⟨a, rfl, ⟨xs, hq⟩, q⟩ | ⟨a, rfl, ⟨xs, hq⟩, q⟩ | ⟨z, rfl, q⟩
  · cases r1
    obtain ⟨its, rv, p, hz⟩ := I1.list hq
    refine wpAny_pyIter_list p.isList ?_
    refine ⟨s1.heap.objs.size, [s1.heap.objs.size], _, _, H1, rfl, I1.kept (t' := s1.toks) fun b o e => Heap.get?_push_of_some _ e, turn_list a _, ⟨_, Heap.get?_push_size _ rfl, rfl, rfl⟩, fun b hb => ?_, q⟩
    have e : b = s1.heap.objs.size := by simpa using hb
    subst e
    exact I1.fpOk (Nat.le_refl _) (I1.hok.fresh (Nat.le_refl _))
  · cases r1
    obtain ⟨its, rv, p, hz⟩ := I1.tuple hq
    refine wpAny_pyIter_tuple (show s1.heap.IsTuple a its.toArray from p) ?_
    refine ⟨s1.heap.objs.size, [s1.heap.objs.size], _, _, H1, rfl, I1.kept (t' := s1.toks) fun b o e => Heap.get?_push_of_some _ e, turn_tuple a _, ⟨_, Heap.get?_push_size _ rfl, rfl, rfl⟩, fun b hb => ?_, q⟩
    have e : b = s1.heap.objs.size := by simpa using hb
    subst e
    exact I1.fpOk (Nat.le_refl _) (I1.hok.fresh (Nat.le_refl _))
  · obtain ⟨t, rfl⟩ := r1
    cases ha : z.cps.all (· < 128)
    · exact wpAny_pyIter_wide ha (pi_one (tk := s1.toks) I1 _ (turn_str _ z t "str_iterator" (.inr rfl)) ⟨_, Heap.get?_push_size _ rfl, rfl, rfl⟩ q)
    · exact wpAny_pyIter_ascii ha (pi_one (tk := s1.toks) I1 _ (turn_str _ z t "str_ascii_iterator" (.inl rfl)) ⟨_, Heap.get?_push_size _ rfl, rfl, rfl⟩ q)
/-- the items of a value that is walked -/
def itemsD : D → Option (List D)
  | .tup ds => some ds
  | .lst ds => some ds
  | .scr ns => some (ns.map D.int)
  | .str z => some (z.cps.toList.map fun c => D.str ⟨#[c]⟩)
  | _ => none
def yesK : KeepE := fun _ => True
def itR (pn : List Nat) (r : Rv) (e : En) (Q : List D → KeepE → En → Prop) : Prop :=
  match r with
  | .fz d => ∃ xs, itemsD d = some xs ∧ Q xs yesK e
  | .ow o => ∃ xs, itemsD o.d = some xs ∧ Q xs yesK e
  | .sl j => if j ∈ pn then ∃ xs, e[j]? = some (some (.ow (.lst xs))) ∧ Q xs (fun e' => e'[j]? = some (some (.ow (.lst xs)))) e
    else ∃ d e2 xs, frz1 e (.sl j) = some (d, e2) ∧ itemsD d = some xs ∧ Q xs yesK e2
theorem itR_mono {pn : List Nat} {r : Rv} {e : En} {Q Q' : List D → KeepE → En → Prop} (h : ∀ xs k e, Q xs k e → Q' xs k e) (q : itR pn r e Q) : itR pn r e Q' := by
  cases r with
  | fz d => obtain ⟨xs, a, q⟩ := q; exact ⟨xs, a, h _ _ _ q⟩
  | ow o => obtain ⟨xs, a, q⟩ := q; exact ⟨xs, a, h _ _ _ q⟩
  | sl j =>
    unfold itR at q ⊢
    dsimp only at q ⊢
    split at q
    · rename_i hj
      rw [if_pos hj]
      obtain ⟨xs, a, q⟩ := q; exact ⟨xs, a, h _ _ _ q⟩
    · rename_i hj
      rw [if_neg hj]
      obtain ⟨d, e2, xs, a, b, q⟩ := q; exact ⟨d, e2, xs, a, b, h _ _ _ q⟩
def wIt (pn : List Nat) (w : EW) : IW := fun env Q E => w env (fun r e => itR pn r e Q) E
section
variable {X : Cx} {c : Ct} {W : WX} {tg e a b d : Expr} {w wa wb wd : EW} {pos p tpos : Pos} {wl : AW} {es elts : List Expr} {kk : Nat}
theorem MonoI.it {pn : List Nat} (m : Mono w) : MonoI (wIt pn w) := ⟨fun hQ hE h => m.mo (fun _ _ z => itR_mono hQ z) hE h⟩
theorem Walks.list {M : Md} {F H : Hp} {σ : St} {env : En} {p : Addr} {xs : List V} {ds : List D} (h : F p = some (.lst xs)) (r : RepL M F xs ds) : Walks M c F (Itl M.K p) ds yesK := by
  have key : ∀ F' H' σ' env', Rel M c F' H' σ' env' → Same F F' → SqL M.K H' p xs := fun F' H' σ' env' R s => .inl (.inl (R.sub _ _ (s _ _ h)))
  refine ⟨fun F' H' σ' env' R s _ i hi => ⟨xs, key F' H' σ' env' R s, by rw [r.length]; exact hi⟩, fun F' H' σ' env' R s _ i d hd => ?_⟩
  obtain ⟨v, hv, rv⟩ := r.get' hd
  have k := key F' H' σ' env' R s
  refine ⟨⟨xs, v, k, hv⟩, fun x H'' ⟨e, y⟩ => ?_⟩
  subst e
  have := y xs k
  rw [hv] at this; cases this
  exact ⟨F', R.sub, Evo.refl, rv.same s⟩
theorem Walks.keptList {M : Md} {F H : Hp} {σ : St} {env : En} {j : Nat} {p : Addr} {xs : List V} {ds : List D} (hj : j ∈ c.pn) (R0 : Rel M c F H σ env) (hp : σ[j]? = some (some (.ref p))) (h : H p = some (.lst xs)) (r : RepL M F xs ds) :
    Walks M c F (Itl M.K p) ds (fun e' => e'[j]? = some (some (.ow (.lst ds)))) := by
  have key : ∀ F' H' σ' env', Rel M c F' H' σ' env' → env'[j]? = some (some (.ow (.lst ds))) → ∃ ys, SqL M.K H' p ys ∧ RepL M F' ys ds := fun F' H' σ' env' R k => by
    obtain ⟨q, h1, h2, ys, h3, h4⟩ := R.ow j _ k
    rw [R.pin j hj, ← R0.pin j hj, hp] at h1; cases h1
    exact ⟨ys, .inl (.inl h3), h4⟩
  refine ⟨fun F' H' σ' env' R s k i hi => ?_, fun F' H' σ' env' R s k i d hd => ?_⟩
  · obtain ⟨ys, h1, h2⟩ := key F' H' σ' env' R k
    exact ⟨ys, h1, by rw [h2.length]; exact hi⟩
  · obtain ⟨ys, h1, h2⟩ := key F' H' σ' env' R k
    obtain ⟨v, hv, rv⟩ := h2.get' hd
    refine ⟨⟨ys, v, h1, hv⟩, fun x H'' ⟨e, y⟩ => ?_⟩
    subst e
    have := y ys h1
    rw [hv] at this; cases this
    exact ⟨F', R.sub, Evo.refl, rv⟩
theorem Walks.tup {M : Md} {F : Hp} {p : Addr} {xs : List V} {ds : List D} (h : SqT M.K F p xs) (r : RepL M F xs ds) : Walks M c F (Itt M.K p) ds yesK := by
  have key : ∀ F' H' σ' env', Rel M c F' H' σ' env' → Same F F' → SqT M.K H' p xs := fun F' H' σ' env' R s => Same.sqT (s.trans R.sub) h
  refine ⟨fun F' H' σ' env' R s _ i hi => ⟨xs, key F' H' σ' env' R s, by rw [r.length]; exact hi⟩, fun F' H' σ' env' R s _ i d hd => ?_⟩
  obtain ⟨v, hv, rv⟩ := r.get' hd
  have k := key F' H' σ' env' R s
  refine ⟨⟨xs, v, k, hv⟩, fun x H'' ⟨e, y⟩ => ?_⟩
  subst e
  have := y xs k
  rw [hv] at this; cases this
  exact ⟨F', R.sub, Evo.refl, rv.same s⟩
theorem Walks.scr {M : Md} {F : Hp} {p : Addr} {ns : List Int} (h : SqL M.K F p (ns.map V.int)) : Walks M c F (Itl M.K p) (ns.map D.int) yesK := by
  have key : ∀ F' H' σ' env', Rel M c F' H' σ' env' → Same F F' → SqL M.K H' p (ns.map V.int) := fun F' H' σ' env' R s => (s.trans R.sub).seq h
  have r : RepL M F (ns.map V.int) (ns.map D.int) := RepL.of_ints ns
  refine ⟨fun F' H' σ' env' R s _ i hi => ⟨_, key F' H' σ' env' R s, by rw [r.length]; exact hi⟩, fun F' H' σ' env' R s _ i d hd => ?_⟩
  obtain ⟨v, hv, rv⟩ := r.get' hd
  have k := key F' H' σ' env' R s
  refine ⟨⟨_, v, k, hv⟩, fun x H'' ⟨e, y⟩ => ?_⟩
  subst e
  have := y _ k
  rw [hv] at this; cases this
  exact ⟨F', R.sub, Evo.refl, rv.same s⟩
theorem Walks.str {M : Md} {F : Hp} {z : Str} : Walks M c F (Its z) (z.cps.toList.map fun c => D.str ⟨#[c]⟩) yesK := by
  refine ⟨fun F' H' σ' env' R s _ i hi => by simpa [Its] using hi, fun F' H' σ' env' R s _ i d hd => ?_⟩
  rw [List.getElem?_map] at hd
  cases hc : z.cps.toList[i]? with
  | none => rw [hc] at hd; cases hd
  | some cp =>
    rw [hc] at hd; cases hd
    have hc' : z.cps[i]? = some cp := by simpa using hc
    refine ⟨(Array.getElem?_eq_some_iff.mp hc').1, fun x H'' ⟨e, cp', h1, h2⟩ => ?_⟩
    subst e; subst h2
    rw [hc'] at h1; cases h1
    exact ⟨F', R.sub, Evo.refl, .str _⟩
/-- the walk over a value that is data -/
theorem walk_fz {M : Md} {F H : Hp} {σ : St} {env : En} {x : V} {d : D} {xs : List D} {R' : It → Hp → Prop} (R : Rel M c F H σ env) (r : Rep M F x d) (hi : itemsD d = some xs) (q : ∀ J, Walks M c F J xs yesK → R' J H) :
    (∃ a, x = .ref a ∧ (∃ xs, SqL M.K H a xs) ∧ R' (Itl M.K a) H) ∨ (∃ a, x = .ref a ∧ (∃ xs, SqT M.K H a xs) ∧ R' (Itt M.K a) H) ∨ (∃ z, x = .str z ∧ R' (Its z) H) := by
  cases r with
  | tup h r => cases hi; exact .inr (.inl ⟨_, rfl, ⟨_, Same.sqT R.sub h⟩, q _ (Walks.tup h r)⟩)
  | lst h r => cases hi; exact .inl ⟨_, rfl, ⟨_, .inl (.inl (R.sub _ _ h))⟩, q _ (Walks.list (H := H) (σ := σ) (env := env) h r)⟩
  | scr h => cases hi; exact .inl ⟨_, rfl, ⟨_, R.sub.seq h⟩, q _ (Walks.scr h)⟩
  | str z => cases hi; exact .inr (.inr ⟨z, rfl, q _ Walks.str⟩)
  | _ => cases hi
theorem si_it (h : SE X c W e w) : SI X c W tg e (wIt c.pn w) := by
  refine ⟨PI.imp (pi_anyS h.pe) fun σ H R' q => ?_, .it h.mo⟩
  obtain ⟨F, env, R, q⟩ := q
  refine ⟨F, env, R, h.mo.mo (fun r e1 z => ?_) (fun _ _ z => z) q⟩
  intro v F1 H1 R1 ev1 ok
  cases r with
  | fz d =>
    obtain ⟨xs, hx, z⟩ := z
    exact walk_fz R1 ok hx fun J wk => z F1 H1 J R1 ev1 wk
  | ow o =>
    obtain ⟨xs, hx, z⟩ := z
    obtain ⟨F2, R2, ev2, rp⟩ := temp_freeze R1 ev1 ok
    exact walk_fz R2 rp hx fun J wk => z _ H1 J R2 ev2 wk
  | sl j =>
    obtain ⟨h1, o, h2⟩ := ok
    unfold itR at z
    dsimp only at z
    split at z
    · rename_i hj
      obtain ⟨xs, hx, z⟩ := z
      obtain ⟨pp, h3, h4, ys, h5, h6⟩ := R1.ow j _ hx
      rw [h1] at h3; cases h3
      exact .inl ⟨pp, rfl, ⟨ys, .inl (.inl h5)⟩, z F1 H1 _ R1 ev1 (Walks.keptList hj R1 h1 h5 h6)⟩
    · obtain ⟨dd, e2, xs, ha, hx, z⟩ := z
      obtain ⟨F2, R2, ev2, rv⟩ := frz1_ok (r := .sl j) R1 h1 ha
      exact walk_fz R2 rv hx fun J wk => z F2 H1 J R2 (ev1.trans ev2) wk
def rngD (lo : Int) : Nat → List D
  | 0 => []
  | n + 1 => .int lo :: rngD (lo + 1) n
theorem rngD_len : ∀ (n : Nat) (lo : Int), (rngD lo n).length = n
  | 0, _ => rfl
  | n + 1, lo => by rw [rngD, List.length_cons, rngD_len n]
theorem rngD_get : ∀ (n : Nat) (lo : Int) (i : Nat), i < n → (rngD lo n)[i]? = some (.int (lo + i))
  | 0, _, i, h => by omega
  | n + 1, lo, 0, _ => by simp [rngD]
  | n + 1, lo, i + 1, h => by
    rw [rngD, List.getElem?_cons_succ, rngD_get n (lo + 1) i (by omega)]
    congr 2
    omega
theorem Walks.rng {M : Md} {F : Hp} {lo : Int} {n : Nat} : Walks M c F (Itr lo n) (rngD lo n) yesK := by
  refine ⟨fun F' H' σ' env' R s _ i hi => by rw [rngD_len] at hi; exact hi, fun F' H' σ' env' R s _ i d hd => ?_⟩
  have hi : i < n := by
    have := (List.getElem?_eq_some_iff.mp hd).1
    rw [rngD_len] at this; exact this
  rw [rngD_get n lo i hi] at hd; cases hd
  refine ⟨hi, fun x H'' ⟨e, y⟩ => ?_⟩
  subst e; subst y
  exact ⟨F', R.sub, Evo.refl, .int _⟩
/-- range(n), range(a, b) -/
def okR (i : Int) : Prop := -(2 ^ 62) ≤ i ∧ i < 2 ^ 62
def wRng1 (wl : AW) : IW := fun env Q E => wl env (fun rs e => ∃ j, lookL e rs = some [.int j] ∧ okR j ∧ Q (rngD 0 j.toNat) yesK e) E
def wRng2 (wl : AW) : IW := fun env Q E => wl env (fun rs e => ∃ i j, lookL e rs = some [.int i, .int j] ∧ okR i ∧ okR j ∧ Q (rngD i (j - i).toNat) yesK e) E
theorem vwL_int1 {M : Md} {F H : Hp} {vs : List V} {i : Int} (h : VwL M F H vs [.int i]) : vs = [.int i] := by
  match vs, h with
  | [v], ⟨h, _⟩ => cases (show v = .int i from h); rfl
theorem vwL_int2 {M : Md} {F H : Hp} {vs : List V} {i j : Int} (h : VwL M F H vs [.int i, .int j]) : vs = [.int i, .int j] := by
  match vs, h with
  | [v, u], ⟨h, h2, _⟩ => cases (show v = .int i from h); cases (show u = .int j from h2); rfl
theorem si_rng1 (hg : Gl X "range") (hm : X.mg "range" = none) (ha : SA X c W [a] wl) (hs : starEach [a] X.env = [(false, eval a X.env)] := by rfl) : SI X c W tg (.Call (.Name "range" p) [a] [] pos) (wRng1 wl) := by
  refine ⟨PI.imp (pi_range1 hg hm ha.pa hs) fun σ H R' q => ?_, ⟨fun hQ hE h => ha.mo.mo (fun rs e ⟨j, l, o, z⟩ => ⟨j, l, o, hQ _ _ _ z⟩) hE h⟩⟩
  obtain ⟨F, env, R, q⟩ := q
  refine ⟨F, env, R, ha.mo.mo (fun rs e1 ⟨j, l, o, z⟩ => ?_) (fun _ _ z => z) q⟩
  intro vs F1 H1 R1 ev1 ok
  exact ⟨j, vwL_int1 (ok.vw R1 l), o.1, o.2, z F1 H1 _ R1 ev1 Walks.rng⟩
theorem si_rng2 (hg : Gl X "range") (hm : X.mg "range" = none) (ha : SA X c W [a, b] wl) (hs : starEach [a, b] X.env = [(false, eval a X.env), (false, eval b X.env)] := by rfl) (hs2 : starEach [b] X.env = [(false, eval b X.env)] := by rfl) :
    SI X c W tg (.Call (.Name "range" p) [a, b] [] pos) (wRng2 wl) := by
  refine ⟨PI.imp (pi_range2 hg hm ha.pa hs hs2) fun σ H R' q => ?_, ⟨fun hQ hE h => ha.mo.mo (fun rs e ⟨i, j, l, o, o2, z⟩ => ⟨i, j, l, o, o2, hQ _ _ _ z⟩) hE h⟩⟩
  obtain ⟨F, env, R, q⟩ := q
  refine ⟨F, env, R, ha.mo.mo (fun rs e1 ⟨i, j, l, o, o2, z⟩ => ?_) (fun _ _ z => z) q⟩
  intro vs F1 H1 R1 ev1 ok
  exact ⟨i, j, vwL_int2 (ok.vw R1 l), ⟨o.1, o.2, o2.1, o2.2⟩, z F1 H1 _ R1 ev1 Walks.rng⟩
def zipD : List D → List D → List D
  | a :: as, b :: bs => .tup [a, b] :: zipD as bs
  | _, _ => []
theorem zipD_len : ∀ (as bs : List D), (zipD as bs).length = min as.length bs.length
  | [], _ => by simp [zipD]
  | _ :: _, [] => by simp [zipD]
  | a :: as, b :: bs => by rw [zipD, List.length_cons, zipD_len as bs, List.length_cons, List.length_cons]; omega
theorem zipD_get : ∀ {as bs : List D} {i : Nat} {d : D}, (zipD as bs)[i]? = some d → ∃ a b, as[i]? = some a ∧ bs[i]? = some b ∧ d = .tup [a, b]
  | [], _, i, d, h => by simp [zipD] at h
  | _ :: _, [], i, d, h => by simp [zipD] at h
  | a :: as, b :: bs, 0, d, h => by simp [zipD] at h; exact ⟨a, b, rfl, rfl, h.symm⟩
  | a :: as, b :: bs, i + 1, d, h => by
    have h' : (zipD as bs)[i]? = some d := by simpa [zipD] using h
    obtain ⟨x, y, h1, h2, h3⟩ := zipD_get h'
    exact ⟨x, y, by simpa using h1, by simpa using h2, h3⟩
theorem Rel.pair {M : Md} {F H : Hp} {σ : St} {env : En} {x y : V} {dx dy : D} {T : Addr} (R : Rel M c F H σ env) (hT : H T = none) (rx : Rep M F x dx) (ry : Rep M F y dy) :
    ∃ F'', Same F'' (upd H T (.tup [x, y])) ∧ Evo Nob Nob F H F'' (upd H T (.tup [x, y])) ∧ Rep M F'' (.ref T) (.tup [dx, dy]) := by
  have ev := Evo.newF (o := HO.tup [x, y]) hT (R.sub.free hT)
  exact ⟨_, same_newF R.sub hT, ev, .tup (.inl (.inl upd_same)) (.cons (rx.same ev.fs) (.cons (ry.same ev.fs) .nil))⟩
theorem Walks.zipT {M : Md} {F : Hp} {p q : Addr} {xs ys : List V} {as bs : List D} (h : SqT M.K F p xs) (r : RepL M F xs as) (h' : SqT M.K F q ys) (r' : RepL M F ys bs) : Walks M c F (ItzT M.K p q) (zipD as bs) yesK := by
  refine ⟨fun F' H' σ' env' R s _ i hi => ⟨xs, ys, Same.sqT (s.trans R.sub) h, Same.sqT (s.trans R.sub) h', ?_⟩, fun F' H' σ' env' R s _ i d hd => ?_⟩
  · rw [zipD_len] at hi
    rw [r.length, r'.length]
    omega
  · obtain ⟨da, db, h1, h2, rfl⟩ := zipD_get hd
    obtain ⟨x, hx, rx⟩ := r.get' h1
    obtain ⟨y, hy, ry⟩ := r'.get' h2
    have k1 := Same.sqT (s.trans R.sub) h
    have k2 := Same.sqT (s.trans R.sub) h'
    refine ⟨⟨xs, ys, x, y, k1, k2, hx, hy⟩, fun v H'' ⟨T, x', y', e1, hT, e2, f1, f2⟩ => ?_⟩
    subst e1; subst e2
    have := f1 xs k1; rw [hx] at this; cases this
    have := f2 ys k2; rw [hy] at this; cases this
    exact R.pair hT (rx.same s) (ry.same s)
theorem Walks.zipL {M : Md} {F : Hp} {p q : Addr} {xs ys : List V} {as bs : List D} (h : F p = some (.lst xs)) (r : RepL M F xs as) (h' : F q = some (.lst ys)) (r' : RepL M F ys bs) : Walks M c F (Itz M.K p q) (zipD as bs) yesK := by
  have l1 : SqL M.K F p xs := .inl (.inl h)
  have l2 : SqL M.K F q ys := .inl (.inl h')
  refine ⟨fun F' H' σ' env' R s _ i hi => ⟨xs, ys, (s.trans R.sub).seq l1, (s.trans R.sub).seq l2, ?_⟩, fun F' H' σ' env' R s _ i d hd => ?_⟩
  · rw [zipD_len] at hi
    rw [r.length, r'.length]
    omega
  · obtain ⟨da, db, h1, h2, rfl⟩ := zipD_get hd
    obtain ⟨x, hx, rx⟩ := r.get' h1
    obtain ⟨y, hy, ry⟩ := r'.get' h2
    have k1 := (s.trans R.sub).seq l1
    have k2 := (s.trans R.sub).seq l2
    refine ⟨⟨xs, ys, x, y, k1, k2, hx, hy⟩, fun v H'' ⟨T, x', y', e1, hT, e2, f1, f2⟩ => ?_⟩
    subst e1; subst e2
    have := f1 xs k1; rw [hx] at this; cases this
    have := f2 ys k2; rw [hy] at this; cases this
    exact R.pair hT (rx.same s) (ry.same s)
def wZip (wl : AW) : IW := fun env Q E => wl env (fun rs e => ∃ ds e', frzL e rs = some (ds, e') ∧ ((∃ as bs, ds = [.tup as, .tup bs] ∧ Q (zipD as bs) yesK e') ∨ (∃ as bs, ds = [.lst as, .lst bs] ∧ Q (zipD as bs) yesK e'))) E
theorem si_zip (hg : Gl X "zip") (hm : X.mg "zip" = none) (ha : SA X c W [a, b] wl) (hs : starEach [a, b] X.env = (false, eval a X.env) :: starEach [b] X.env := by rfl) (hpl : (backTo pos (starEach [b] X.env)).any (·.1) = false := by rfl) :
    SI X c W (.Tuple elts kk tpos) (.Call (.Name "zip" p) [a, b] [] pos) (wZip wl) := by
  refine ⟨PI.imp (pi_zipA hg hm ha.pa hs hpl) fun σ H R' q => ?_, ⟨fun hQ hE h => ha.mo.mo (fun rs e ⟨ds, e', l, z⟩ => ⟨ds, e', l, by
    rcases z with ⟨x, y, l, z⟩ | ⟨x, y, l, z⟩
    · exact .inl ⟨x, y, l, hQ _ _ _ z⟩
    · exact .inr ⟨x, y, l, hQ _ _ _ z⟩⟩) hE h⟩⟩
  obtain ⟨F, env, R, q⟩ := q
  refine ⟨F, env, R, ha.mo.mo (fun rs e1 ⟨ds, e', l, z⟩ => ?_) (fun _ _ z => z) q⟩
  intro vs F1 H1 R1 ev1 ok
  obtain ⟨F2, R2, ev2, rl⟩ := frzL_ok R1 ok l
  rcases z with ⟨as, bs, rfl, z⟩ | ⟨as, bs, rfl, z⟩
  · cases rl with
    | cons q1 rl =>
      cases rl with
      | cons q2 rl =>
        cases rl
        cases q1 with
        | tup h1 r1 => cases q2 with
          | tup h2 r2 => exact ⟨_, _, _, _, rfl, .inr ⟨Same.sqT R2.sub h1, Same.sqT R2.sub h2, z F2 H1 _ R2 (ev1.trans ev2) (Walks.zipT h1 r1 h2 r2)⟩⟩
  · cases rl with
    | cons q1 rl =>
      cases rl with
      | cons q2 rl =>
        cases rl
        cases q1 with
        | lst h1 r1 => cases q2 with
          | lst h2 r2 => exact ⟨_, _, _, _, rfl, .inl ⟨.inl (.inl (R2.sub _ _ h1)), .inl (.inl (R2.sub _ _ h2)), z F2 H1 _ R2 (ev1.trans ev2) (Walks.zipL h1 r1 h2 r2)⟩⟩
end
end LV
namespace LV
open PySem PySem.Spec L2
def wipeE (env : En) : List Nat → En
  | [] => env
  | v :: vs => (wipeE env vs).set v none
theorem wipeE_len (env : En) : ∀ vs : List Nat, (wipeE env vs).length = env.length
  | [] => rfl
  | v :: vs => by rw [wipeE, List.length_set, wipeE_len env vs]
theorem wipeE_in {env : En} {i : Nat} {x : Val} : ∀ {vs : List Nat}, (wipeE env vs)[i]? = some (some x) → env[i]? = some (some x) ∧ i ∉ vs
  | [], h => ⟨h, by simp⟩
  | v :: vs, h => by
    rw [wipeE] at h
    by_cases hi : v = i
    · subst hi
      by_cases hv : v < (wipeE env vs).length
      · rw [List.getElem?_set_self hv] at h; cases h
      · rw [List.getElem?_eq_none (by simpa using hv)] at h; cases h
    · rw [List.getElem?_set_ne hi] at h
      obtain ⟨h1, h2⟩ := wipeE_in h
      exact ⟨h1, by simp only [List.mem_cons, not_or]; exact ⟨fun e => hi e.symm, h2⟩⟩
theorem wipe_out' {σ : St} {i : Nat} : ∀ {vs : List Nat}, i ∉ vs → (wipe σ vs)[i]? = σ[i]?
  | [], _ => rfl
  | v :: vs, h => by
    have hv : v ≠ i := fun z => h (z ▸ List.mem_cons_self)
    rw [wipe, List.getElem?_set_ne hv, wipe_out' fun z => h (List.mem_cons_of_mem _ z)]
theorem wipe_at {σ : St} {i : Nat} : ∀ {vs : List Nat}, i ∈ vs → (wipe σ vs)[i]? = if i < σ.length then some none else none
  | [], h => nomatch h
  | v :: vs, h => by
    rw [wipe]
    by_cases hv : v = i
    · subst hv
      by_cases hl : v < σ.length
      · rw [List.getElem?_set_self (by rw [wipe_length]; exact hl), if_pos hl]
      · rw [List.getElem?_eq_none (by rw [List.length_set, wipe_length]; omega), if_neg hl]
    · rw [List.getElem?_set_ne hv]
      rcases List.mem_cons.mp h with e | h
      · exact absurd e.symm hv
      · exact wipe_at h
theorem wipe_congr {σ σ' : St} {vs : List Nat} (hl : σ'.length = σ.length) (h : ∀ i, i ∉ vs → σ'[i]? = σ[i]?) : wipe σ' vs = wipe σ vs := by
  apply List.ext_getElem?
  intro i
  by_cases hi : i ∈ vs
  · rw [wipe_at hi, wipe_at hi, hl]
  · rw [wipe_out' hi, wipe_out' hi, h i hi]
theorem stS_len : ∀ {is : List Nat} {vs : List V} {σ : St}, (stS σ is vs).length = σ.length
  | [], _, _ => by unfold stS; rfl
  | i :: is, [], _ => rfl
  | i :: is, v :: vs, σ => by
    show (stS (σ.set i (some v)) is vs).length = _
    rw [stS_len, List.length_set]
theorem stS_out : ∀ {is : List Nat} {vs : List V} {σ : St} {j : Nat}, j ∉ is → (stS σ is vs)[j]? = σ[j]?
  | [], _, _, _, _ => by unfold stS; rfl
  | i :: is, [], _, _, _ => rfl
  | i :: is, v :: vs, σ, j, h => by
    have hi : i ≠ j := fun z => h (z ▸ List.mem_cons_self)
    show (stS (σ.set i (some v)) is vs)[j]? = _
    rw [stS_out fun z => h (List.mem_cons_of_mem _ z), List.getElem?_set_ne hi]
theorem wipe_stT {tg : Tg} {x : V} {us : List V} {σ : St} {vs : List Nat} (h : ∀ i ∈ tg.slots, i ∈ vs) : wipe (stT tg x us (wipe σ vs)) vs = wipe σ vs := by
  refine wipe_congr ?_ fun i hi => ?_
  · cases tg with
    | n j => show ((wipe σ vs).set j _).length = _; rw [List.length_set, wipe_length]
    | t is => show (stS (wipe σ vs) is us).length = _; rw [stS_len, wipe_length]
  · cases tg with
    | n j =>
      have : j ≠ i := fun z => hi (z ▸ h j List.mem_cons_self)
      show ((wipe σ vs).set j _)[i]? = _
      rw [List.getElem?_set_ne this, wipe_out' hi]
    | t is =>
      show (stS (wipe σ vs) is us)[i]? = _
      rw [stS_out (is := is) fun z => hi (h i z), wipe_out' hi]
section
variable {M : Md} {c : Ct} {F H : Hp} {σ : St} {env : En} {vs : List Nat}
theorem Rel.wiped (R : Rel M c F H σ env) (hv : ∀ i ∈ vs, i ∉ c.pn) : Rel M c F H (wipe σ vs) (wipeE env vs) := by
  refine ⟨R.sub, by rw [wipe_length, wipeE_len]; exact R.len, fun i d h => ?_, fun i o h => ?_, fun i a C ks ds h => ?_, fun i j o u p h1 h2 h3 h4 => ?_, fun i hi => ?_, R.old, fun i o p h hn hp => ?_, fun i o b h hb => ?_, R.oldN⟩
  · obtain ⟨h1, h2⟩ := wipeE_in h
    rw [wipe_out' h2]; exact R.fz i d h1
  · obtain ⟨h1, h2⟩ := wipeE_in h
    rw [wipe_out' h2]; exact R.ow i o h1
  · obtain ⟨h1, h2⟩ := wipeE_in h
    rw [wipe_out' h2]; exact R.ex i a C ks ds h1
  · obtain ⟨a1, a2⟩ := wipeE_in h1
    obtain ⟨b1, b2⟩ := wipeE_in h2
    rw [wipe_out' a2] at h3
    rw [wipe_out' b2] at h4
    exact R.sep i j o u p a1 b1 h3 h4
  · rw [wipe_out' fun z => hv i z hi]; exact R.pin i hi
  · obtain ⟨h1, h2⟩ := wipeE_in h
    rw [wipe_out' h2] at hp
    exact R.fr i o p h1 hn hp
  · exact R.frN i o b (wipeE_in h).1 hb
theorem own_wipe : ∀ b, Own (wipe σ vs) (wipeE env vs) b → Own σ env b := fun b ⟨i, o, h1, h2⟩ => by
  obtain ⟨a1, a2⟩ := wipeE_in h1
  rw [wipe_out' a2] at h2
  exact ⟨i, o, a1, h2⟩
theorem Rel.unwipe (R : Rel M c F H (wipe σ vs) (wipeE env vs)) (hv : ∀ i ∈ vs, i ∉ c.pn) : Rel M c F H σ (wipeE env vs) := by
  refine ⟨R.sub, by have := R.len; rw [wipe_length] at this; exact this, fun i d h => ?_, fun i o h => ?_, fun i a C ks ds h => ?_, fun i j o u p h1 h2 h3 h4 => ?_, fun i hi => ?_, R.old, fun i o p h hn hp => ?_, fun i o b h hb => ?_, R.oldN⟩
  · have h2 := (wipeE_in h).2
    obtain ⟨v, a, b⟩ := R.fz i d h
    rw [wipe_out' h2] at a; exact ⟨v, a, b⟩
  · have h2 := (wipeE_in h).2
    obtain ⟨v, a, b⟩ := R.ow i o h
    rw [wipe_out' h2] at a; exact ⟨v, a, b⟩
  · have h2 := (wipeE_in h).2
    have := R.ex i a C ks ds h
    rw [wipe_out' h2] at this; exact this
  · have a2 := (wipeE_in h1).2
    have b2 := (wipeE_in h2).2
    exact R.sep i j o u p h1 h2 (by rw [wipe_out' a2]; exact h3) (by rw [wipe_out' b2]; exact h4)
  · have := R.pin i hi
    rw [wipe_out' fun z => hv i z hi] at this; exact this
  · have h2 := (wipeE_in h).2
    exact R.fr i o p h hn (by rw [wipe_out' h2]; exact hp)
  · exact R.frN i o b h hb
theorem own_unwipe : ∀ b, Own σ (wipeE env vs) b → Own (wipe σ vs) (wipeE env vs) b := fun b ⟨i, o, h1, h2⟩ => by
  have a2 := (wipeE_in h1).2
  exact ⟨i, o, h1, by rw [wipe_out' a2]; exact h2⟩
end
abbrev W0 : WX := fun _ _ _ _ => False
abbrev X0 : XW := fun _ _ => False
def compW (tg : Tg) (u : TW) (w : EW) (vs : List Nat) (keep : KeepE) (Q : List D → En → Prop) : List D → List D → En → Prop
  | [], acc, env => keep env ∧ Q acc env
  | d :: ds, acc, env => keep env ∧ ∃ e1, bindT tg d env = some e1 ∧ u e1 (fun b e2 => if b = true then wFz w e2 (fun r e3 => ∃ dd e4, frz1 e3 r = some (dd, e4) ∧ acc.length < sizeLine ∧ compW tg u w vs keep Q ds (acc ++ [dd]) (wipeE e4 vs)) X0 else compW tg u w vs keep Q ds acc (wipeE e2 vs)) X0
theorem compW_mono {tg : Tg} {u : TW} {w : EW} {vs : List Nat} {keep : KeepE} {Q Q' : List D → En → Prop} (mu : MonoT u) (mw : Mono w) (h : ∀ a e, Q a e → Q' a e) : ∀ {ds acc : List D} {env : En}, compW tg u w vs keep Q ds acc env → compW tg u w vs keep Q' ds acc env
  | [], _, _, ⟨a, q⟩ => ⟨a, h _ _ q⟩
  | d :: ds, acc, env, ⟨a, e1, b, q⟩ => ⟨a, e1, b, mu.mo (fun k e2 q => by
    cases k with
    | true =>
      rw [if_pos rfl] at q ⊢
      exact mw.fz.mo (fun r e3 ⟨dd, e4, f, l, q⟩ => ⟨dd, e4, f, l, compW_mono mu mw h q⟩) (fun _ _ z => z) q
    | false =>
      rw [if_neg Bool.false_ne_true] at q ⊢
      exact compW_mono mu mw h q) (fun _ _ z => z) q⟩
def wLc (tg : Tg) (it : IW) (u : TW) (w : EW) (vs : List Nat) : EW := fun env Q E => it env (fun xs keep e => compW tg u w vs keep (fun acc e' => Q (.ow (.lst acc)) e') xs [] (wipeE e vs)) E
theorem Mono.lc {tg : Tg} {it : IW} {u : TW} {w : EW} {vs : List Nat} (mi : MonoI it) (mu : MonoT u) (mw : Mono w) : Mono (wLc tg it u w vs) := ⟨fun hQ hE h => mi.mo (fun _ _ _ z => compW_mono mu mw (fun _ _ q => hQ _ _ q) z) hE h⟩
def uYes : TW := fun env Q _ => Q true env
structure STs (X : Cx) (c : Ct) (W : WX) (es : List Expr) (w : TW) : Prop where
  pt : PTs X es (TRd (mdX X) c W w)
  mo : MonoT w
theorem sts_nil {X : Cx} {c : Ct} {W : WX} : STs X c W [] uYes := ⟨⟨fun pins s σ H Q I h => by
  obtain ⟨F, env, R, h⟩ := h
  exact pts_nil.run pins s σ H Q I (h F H R Evo.refl)⟩, ⟨fun hQ _ h => hQ _ _ h⟩⟩
theorem sts_one {X : Cx} {c : Ct} {W : WX} {e : Expr} {u : TW} (h : ST X c W e u) : STs X c W [e] u := ⟨pts_one h.pt, h.mo⟩
section
variable {M : Md} {c : Ct} {W : WX} {σ : St} {H : Hp}
theorem lc_rd {tg : Tg} {it : IW} {u : TW} {w : EW} {vs : List Nat} {Q : VK} (mi : MonoI it) (mu : MonoT u) (mw : Mono w) (hv : ∀ i ∈ vs, i ∉ c.pn) (ht : ∀ i ∈ tg.slots, i ∈ vs)
    (h : ERd M c W (wLc tg it u w vs) σ H Q) : tLc (IRd M c W it) (gT M.K tg) (TRd M c W0 u) (ERd M c W0 w) vs σ H Q := by
  obtain ⟨F, env, R, h⟩ := h
  refine ⟨F, env, R, mi.mo (fun xs keep e1 z => ?_) (fun _ _ z => z) h⟩
  intro F1 H1 J R1 ev1 wk D hD
  have hDF : F1 D = none := R1.sub.free hD
  have R2 : Rel M c F1 (upd H1 D (.lst [])) (wipe σ vs) (wipeE e1 vs) := (R1.evo (Evo.newO hD) (same_newO R1.sub hD)).wiped hv
  refine ⟨fun i m H' => m = xs.length - i ∧ i ≤ xs.length ∧ ∃ F' e0 acc accV, Rel M c F' H' (wipe σ vs) (wipeE e0 vs) ∧ Same F1 F' ∧ Evo (Own σ env) (Own (wipe σ vs) (wipeE e0 vs)) F H F' H' ∧ H' D = some (.lst accV) ∧ F' D = none ∧ ¬ Own (wipe σ vs) (wipeE e0 vs) D ∧ RepL M F' accV acc ∧
      compW tg u w vs keep (fun acc e' => EPost M c F H σ env Q (.ow (.lst acc)) e') (xs.drop i) acc (wipeE e0 vs),
    ⟨xs.length, by simp, Nat.zero_le _, F1, e1, [], [], R2, Same.refl _, (ev1.trans (Evo.newO hD).nob).trans (Evo.sub own_wipe), upd_same, hDF, fun z => R1.notOwn hD (own_wipe _ z), .nil, z⟩, ?_⟩
  rintro i m H' ⟨rfl, hi, F', e0, acc, accV, R', sm, ev, hDH, hDF', hDo, ra, cw⟩
  have wkk : ∀ {env' : En} {σ' : St} {F'' H'' : Hp}, True := fun {_ _ _ _} => True.intro
  by_cases hlt : i < xs.length
  · have hd : xs.drop i = xs[i] :: xs.drop (i + 1) := List.drop_eq_getElem_cons hlt
    rw [hd] at cw
    obtain ⟨kp, e2, hb2, cw⟩ := cw
    obtain ⟨go, yld⟩ := wk.go F' H' (wipe σ vs) (wipeE e0 vs) R' sm kp i xs[i] (List.getElem?_eq_getElem hlt)
    refine .inr ⟨go, fun H'' => ∃ F' e0 acc accV, Rel M c F' H'' (wipe σ vs) (wipeE e0 vs) ∧ Same F1 F' ∧ Evo (Own σ env) (Own (wipe σ vs) (wipeE e0 vs)) F H F' H'' ∧ H'' D = some (.lst accV) ∧ F' D = none ∧ ¬ Own (wipe σ vs) (wipeE e0 vs) D ∧ RepL M F' accV acc ∧
      compW tg u w vs keep (fun acc e' => EPost M c F H σ env Q (.ow (.lst acc)) e') (xs.drop (i + 1)) acc (wipeE e0 vs),
      fun H'' h => ⟨xs.length - (i + 1), by omega, rfl, hlt, h⟩, fun x H'' hy => ?_⟩
    obtain ⟨F2, s2, ev2, rx⟩ := yld x H'' hy
    have R2' := R'.evo ev2 s2
    obtain ⟨k1, k2, k3⟩ := ev2.nob.keepTemp (A := Own (wipe σ vs) (wipeE e0 vs)) hDH hDF' hDo
    refine bindT_ok (fun j hj => hv j (ht j hj)) R2' rx hb2 fun us R3 ow3 => ?_
    have w1 : wipe (stT tg x us (wipe σ vs)) vs = wipe σ vs := wipe_stT ht
    refine ⟨w1, ?_⟩
    have ev3 : Evo (Own σ env) (Own (stT tg x us (wipe σ vs)) e2) F H F2 H'' := (ev.trans ev2.nob).trans (Evo.sub ow3)
    have d3 : ¬ Own (stT tg x us (wipe σ vs)) e2 D := fun z => hDo (ow3 D z)
    refine ⟨F2, e2, R3, mu.mo (fun b e4 q => ?_) (fun _ _ z => z.elim) cw⟩
    intro F4 H4 R4 ev4
    obtain ⟨l1, l2, l3⟩ := ev4.keepTemp k1 k2 d3
    cases b with
    | false =>
      rw [if_neg Bool.false_ne_true] at q ⊢
      have R5 := R4.wiped hv
      rw [w1] at R5
      have o5 : ∀ b, Own (wipe σ vs) (wipeE e4 vs) b → Own (stT tg x us (wipe σ vs)) e4 b := fun b hb => own_wipe b (by rw [w1]; exact hb)
      exact ⟨F4, e4, acc, accV, R5, (sm.trans ev2.fs).trans ev4.fs, (ev3.trans ev4).trans (Evo.sub o5), l1, l2, fun z => l3 (o5 D z), ra.same (ev2.fs.trans ev4.fs), q⟩
    | true =>
      rw [if_pos rfl] at q ⊢
      refine opd mw R4 (mw.fz.mo (fun _ _ z => z) (fun _ _ z => z.elim) q) fun r e5 v F5 H5 R5 ev5 ok5 ⟨dd, e6, hf, hl, q⟩ => ?_
      obtain ⟨F6, R6, ev6, rv⟩ := frz1_ok R5 ok5 hf
      have ev56 := ev5.trans ev6
      obtain ⟨m1, m2, m3⟩ := ev56.keepTemp l1 l2 l3
      refine ⟨accV, m1, by rw [(ra.same (F' := F6) ((ev2.fs.trans ev4.fs).trans ev56.fs)).length]; exact hl, ?_⟩
      have R7 : Rel M c F6 (upd H5 D (.lst (accV ++ [v]))) (stT tg x us (wipe σ vs)) e6 := R6.tempW m2 m3
      have H0D : H D = none := ev1.noneOf hD
      have evA := (ev3.trans ev4).trans ev56
      have ev7 : Evo (Own σ env) (Own (stT tg x us (wipe σ vs)) e6) F H F6 (upd H5 D (.lst (accV ++ [v]))) := by
        refine ⟨evA.fs, evA.fn, fun b o hb hn => ?_, fun b o hb => ?_, evA.aa⟩
        · have : b ≠ D := fun z => by rw [z, H0D] at hb; cases hb
          rw [upd_ne this]; exact evA.hk b o hb hn
        · by_cases hbd : b = D
          · exact ⟨_, by rw [hbd]; exact upd_same⟩
          · rw [upd_ne hbd]; exact evA.ht b o hb
      have R8 := R7.wiped hv
      rw [w1] at R8
      have o8 : ∀ b, Own (wipe σ vs) (wipeE e6 vs) b → Own (stT tg x us (wipe σ vs)) e6 b := fun b hb => own_wipe b (by rw [w1]; exact hb)
      exact ⟨F6, e6, acc ++ [dd], accV ++ [v], R8, ((sm.trans ev2.fs).trans ev4.fs).trans ev56.fs, ev7.trans (Evo.sub o8), upd_same, m2, fun z => m3 (o8 D z), (ra.same ((ev2.fs.trans ev4.fs).trans ev56.fs)).append (.cons rv .nil), q⟩
  · have e : i = xs.length := by omega
    subst e
    rw [List.drop_length] at cw
    obtain ⟨kp, cw⟩ := cw
    refine .inl ⟨wk.stop F' H' (wipe σ vs) (wipeE e0 vs) R' sm kp _ (Nat.le_refl _), ?_⟩
    exact cw (.ref D) F' H' (R'.unwipe hv) (ev.trans (Evo.sub own_unwipe)) ⟨D, rfl, hDF', ⟨accV, hDH, ra⟩, hO fun z => hDo (own_unwipe D z), hH (ev1.noneOf hD)⟩
end
section
variable {X : Cx} {c : Ct} {W : WX} {elt tgE iter : Expr} {ifs : List Expr} {scope : Scope} {own : List (Str × Nat)} {pos : Pos} {tg : Tg} {it : IW} {u : TW} {w : EW}
theorem se_lc (hc : X.calm = true) (hN : X.N.Nodup) (hi : SI X c W tgE iter it) (ok : BlkOk X.N X.env.scope scope own) (hv : ∀ i ∈ own.map (·.2), i ∉ c.pn) (ht : ∀ i ∈ tg.slots, i ∈ own.map (·.2)) (mu : MonoT u) (mw : Mono w)
    (hg : ∀ (s : Shared) (H : Hp) (C : Addr) (cl : List (Str × Addr)) (fp : List Addr), SG (X.blk s H scope (compEnvC scope cl C X.env) fp) tgE tg)
    (hu : ∀ (s : Shared) (H : Hp) (C : Addr) (cl : List (Str × Addr)) (fp : List Addr), STs (X.blk s H scope (compEnvC scope cl C X.env) fp) c W0 ifs u)
    (he : ∀ (s : Shared) (H : Hp) (C : Addr) (cl : List (Str × Addr)) (fp : List Addr), SE (X.blk s H scope (compEnvC scope cl C X.env) fp) c W0 elt w)
    (hs : ∀ x, foldedSetIterable iter X.env x = pure x := by intro _; rfl) : SE X c W (.ListComp elt [⟨tgE, iter, ifs, 0⟩] scope pos) (wLc tg it u w (own.map (·.2))) :=
  ⟨PE.imp (pe_lc (te := ERd (mdX X) c W0 w) (tt := TRd (mdX X) c W0 u) (g := gT X.K tg) hc hN hi.pi ok (fun s H C cl fp => (hg s H C cl fp).pg) (fun s H C cl fp => (hu s H C cl fp).pt) (fun s H C cl fp => (he s H C cl fp).pe) hs) fun σ H Q h => lc_rd hi.mo mu mw hv ht h, .lc hi.mo mu mw⟩
theorem ss_setLc {i : Nat} {y : Str} {py spos : Pos} (hip : i ∉ c.pn) (hc : X.calm = true) (hN : X.N.Nodup) (hy : X.N[i]? = some y) (hyl : X.env.scope.names.lookup y = some .local)
    (hsw : swapsWith (.ListComp elt [⟨tgE, iter, ifs, 0⟩] scope pos) (some (.Name y py)) spos.line X.env = pure true) (hi : SI X c W tgE iter it) (ok : BlkOk X.N X.env.scope scope own) (hv : ∀ i ∈ own.map (·.2), i ∉ c.pn) (ht : ∀ i ∈ tg.slots, i ∈ own.map (·.2)) (mu : MonoT u) (mw : Mono w)
    (hg : ∀ (s : Shared) (H : Hp) (C : Addr) (cl : List (Str × Addr)) (fp : List Addr), SG (X.blk s H scope (compEnvC scope cl C X.env) fp) tgE tg)
    (hu : ∀ (s : Shared) (H : Hp) (C : Addr) (cl : List (Str × Addr)) (fp : List Addr), STs (X.blk s H scope (compEnvC scope cl C X.env) fp) c W0 ifs u)
    (he : ∀ (s : Shared) (H : Hp) (C : Addr) (cl : List (Str × Addr)) (fp : List Addr), SE (X.blk s H scope (compEnvC scope cl C X.env) fp) c W0 elt w)
    (hs : ∀ x, foldedSetIterable iter X.env x = pure x := by intro _; rfl) : SS X c W (.Assign [.Name y py] (.ListComp elt [⟨tgE, iter, ifs, 0⟩] scope pos) spos) (wSet i (wLc tg it u w (own.map (·.2)))) := by
  have mm : Mono (wLc tg it u w (own.map (·.2))) := .lc hi.mo mu mw
  refine ⟨PS.imp (ps_setLc (te := ERd (mdX X) c W0 w) (tt := TRd (mdX X) c W0 u) (g := gT X.K tg) hc hN hy hyl hsw hi.pi ok (fun s H C cl fp => (hg s H C cl fp).pg) (fun s H C cl fp => (hu s H C cl fp).pt) (fun s H C cl fp => (he s H C cl fp).pe) hs) fun D σ H q => ?_,
    ⟨fun k q => mm.mo (fun _ _ z => setR_mono (fun _ z => k.nx _ z) z) (fun _ _ z => k.ex _ _ z) q⟩⟩
  obtain ⟨F, env, R, q⟩ := q
  refine lc_rd hi.mo mu mw hv ht ⟨F, env, R, mm.mo (fun r e z => ?_) (fun _ _ z => z.xp) q⟩
  intro v F' H' R' ev ok
  obtain ⟨F2, e2, n, R2, ev2⟩ := setR_ok hip R R' ev ok z
  exact n _ F2 H' R2 ev2
end
end LV
namespace LV
open PySem PySem.Spec L2
def startE (n : Nat) (args : List Val) : En := args.map some ++ List.replicate (n - args.length) none
/-- the arguments at the end: a pinned slot's as it stands, another one's as it was -/
def finA (pn : List Nat) (env : En) : Nat → List Val → Option (List Val)
  | _, [] => some []
  | j, a :: as => match (if j ∈ pn then (env[j]?).getD none else some a), finA pn env (j + 1) as with
    | some v, some vs => some (v :: vs)
    | _, _ => none
def KsFn (pn : List Nat) (args : List Val) (Q : Rv → List Val → Prop) (E : Xn → List Val → Prop) : Ks where
  nx := fun env => ∃ as, finA pn env 0 args = some as ∧ Q (.fz .non) as
  rt := fun r env => ∃ as, finA pn env 0 args = some as ∧ Q r as
  bk := fun _ => False
  ct := fun _ => False
  ex := fun x env => ∃ as, finA pn env 0 args = some as ∧ E x as
theorem finA_get {pn : List Nat} {env : En} : ∀ {args as : List Val} {j k : Nat} {a : Val}, finA pn env j args = some as → as[k]? = some a →
    ∃ b, args[k]? = some b ∧ ((j + k ∈ pn ∧ env[j + k]? = some (some a)) ∨ (j + k ∉ pn ∧ a = b))
  | [], _, j, k, a, h, e => by cases h; simp at e
  | b :: args, as, j, k, a, h, e => by
    unfold finA at h
    cases h1 : (if j ∈ pn then (env[j]?).getD none else some b) with
    | none => rw [h1] at h; cases h
    | some v =>
      cases h2 : finA pn env (j + 1) args with
      | none => rw [h1, h2] at h; cases h
      | some vs =>
        rw [h1, h2] at h; cases h
        cases k with
        | zero =>
          simp at e; subst e
          refine ⟨b, rfl, ?_⟩
          by_cases hj : j ∈ pn
          · rw [if_pos hj] at h1
            refine .inl ⟨hj, ?_⟩
            show env[j]? = _
            cases he : env[j]? with
            | none => rw [he] at h1; cases h1
            | some x => rw [he] at h1; simp at h1; rw [h1]
          · rw [if_neg hj] at h1; cases h1
            exact .inr ⟨hj, rfl⟩
        | succ k =>
          obtain ⟨c, h3, h4⟩ := finA_get (j := j + 1) (k := k) h2 (by simpa using e)
          refine ⟨c, by simpa using h3, ?_⟩
          rw [show j + 1 + k = j + (k + 1) by omega] at h4
          exact h4
theorem finA_len {pn : List Nat} {env : En} : ∀ {args as : List Val} {j : Nat}, finA pn env j args = some as → as.length = args.length
  | [], _, j, h => by cases h; rfl
  | b :: args, as, j, h => by
    unfold finA at h
    cases h1 : (if j ∈ pn then (env[j]?).getD none else some b) with
    | none => rw [h1] at h; cases h
    | some v =>
      cases h2 : finA pn env (j + 1) args with
      | none => rw [h1, h2] at h; cases h
      | some vs => rw [h1, h2] at h; cases h; rw [List.length_cons, List.length_cons, finA_len h2]
/-- what a spec must say of its arguments -/
structure ArgsFit (pn : List Nat) (n : Nat) (args : List Val) : Prop where
  len : args.length = n
  ow : ∀ (j : Nat) (o : O), args[j]? = some (.ow o) → j ∈ pn
  ex : ∀ (j : Nat) (a : Addr) (C : Str) (ks : List Str) (vs : List D), args[j]? ≠ some (.ex a C ks vs)
theorem startE_get {n : Nat} {args : List Val} {j : Nat} {a : Val} : (startE n args)[j]? = some (some a) ↔ args[j]? = some a := by
  unfold startE
  by_cases h : j < args.length
  · rw [List.getElem?_append_left (by simpa using h), List.getElem?_map]
    cases args[j]? <;> simp
  · rw [List.getElem?_append_right (by simpa using h), List.getElem?_replicate, List.getElem?_eq_none (by omega)]
    split <;> simp
theorem start_get {N : List Str} {vs : List V} {j : Nat} {v : V} : (start N vs)[j]? = some (some v) ↔ vs[j]? = some v := by
  unfold L2.start
  by_cases h : j < vs.length
  · rw [List.getElem?_append_left (by simpa using h), List.getElem?_map]
    cases vs[j]? <;> simp
  · rw [List.getElem?_append_right (by simpa using h), List.getElem?_replicate, List.getElem?_eq_none (by omega)]
    split <;> simp
section
variable {M : Md} {F H F' H' : Hp} {N : List Str} {vs : List V} {args as : List Val} {pn : List Nat} {n : Nat} {σ' : St} {env' : En}
theorem Rel.begin (R : Rel M (ctN H) F H (sV vs) (eV args)) (hf : ArgsFit pn n args) (hn : n ≤ N.length) : Rel M ⟨pn, start N vs, H, fun _ _ _ => False, H⟩ F H (start N vs) (startE N.length args) := by
  have hl : vs.length = args.length := by
    have := R.len
    unfold eV sV at this
    simpa using this.symm
  refine ⟨R.sub, ?_, fun i d h => ?_, fun i o h => ?_, fun i a C ks ds h => ?_, fun i j o u p h1 h2 h3 h4 => ?_, fun _ _ => rfl, fun b u h => ⟨u, h⟩, fun i o p h hn' _ => ?_, fun i o b h hb => have z := (R.frN i o b (eV_get.mpr (startE_get.mp h)) hb).1; ⟨z, z⟩, fun b u h => ⟨u, h⟩⟩
  · unfold startE L2.start
    simp only [List.length_append, List.length_map, List.length_replicate, hl]
  · obtain ⟨v, h1, h2⟩ := R.fz i d (eV_get.mpr (startE_get.mp h))
    exact ⟨v, start_get.mpr (sV_get.mp h1), h2⟩
  · obtain ⟨p, h1, h2⟩ := R.ow i o (eV_get.mpr (startE_get.mp h))
    exact ⟨p, start_get.mpr (sV_get.mp h1), h2⟩
  · exact absurd (startE_get.mp h) (hf.ex i a C ks ds)
  · exact R.sep i j o u p (eV_get.mpr (startE_get.mp h1)) (eV_get.mpr (startE_get.mp h2)) (h3.imp fun p z => ⟨sV_get.mpr (start_get.mp z.1), z.2⟩) (h4.imp fun p z => ⟨sV_get.mpr (start_get.mp z.1), z.2⟩)
  · exact absurd (hf.ow i o (startE_get.mp h)) hn'
theorem own_begin : ∀ b, Own (start N vs) (startE n args) b ↔ Own (sV vs) (eV args) b := fun b =>
  ⟨fun ⟨i, o, h1, h2⟩ => ⟨i, o, eV_get.mpr (startE_get.mp h1), h2.imp fun p z => ⟨sV_get.mpr (start_get.mp z.1), z.2⟩⟩, fun ⟨i, o, h1, h2⟩ => ⟨i, o, startE_get.mpr (eV_get.mp h1), h2.imp fun p z => ⟨start_get.mpr (sV_get.mp z.1), z.2⟩⟩⟩
/-- at the def's end -/
theorem Rel.finish (R : Rel M (ctN H) F H (sV vs) (eV args)) (hf : ArgsFit pn n args) (R' : Rel M ⟨pn, start N vs, H, fun _ _ _ => False, H⟩ F' H' σ' env') (ev : Evo (Own (start N vs) (startE N.length args)) (Own σ' env') F H F' H') (e : finA pn env' 0 args = some as) :
    Rel M (ctN H) F' H' (sV vs) (eV as) ∧ Evo (Own (sV vs) (eV args)) (Own (sV vs) (eV as)) F H F' H' ∧ ∀ b, Own (sV vs) (eV as) b → Own σ' env' b := by
  have hl : vs.length = args.length := by
    have := R.len
    unfold eV sV at this
    simpa using this.symm
  -- a final argument: pinned, or as it was
  have at_ : ∀ {k : Nat} {a : Val}, as[k]? = some a → (k ∈ pn ∧ env'[k]? = some (some a) ∧ ∃ v, vs[k]? = some v ∧ σ'[k]? = some (some v)) ∨ (k ∉ pn ∧ args[k]? = some a) := fun {k a} h => by
    obtain ⟨b, h1, h2⟩ := finA_get e h
    rw [Nat.zero_add] at h2
    rcases h2 with ⟨h2, h3⟩ | ⟨h2, h3⟩
    · have hk : k < vs.length := by rw [hl]; exact (List.getElem?_eq_some_iff.mp h1).1
      refine .inl ⟨h2, h3, vs[k], List.getElem?_eq_getElem hk, ?_⟩
      rw [R'.pin k h2]
      exact start_get.mpr (List.getElem?_eq_getElem hk)
    · exact .inr ⟨h2, by rw [h3]; exact h1⟩
  have owOf : ∀ {k : Nat} {o : O}, as[k]? = some (.ow o) → env'[k]? = some (some (.ow o)) ∧ ∃ v, vs[k]? = some v ∧ σ'[k]? = some (some v) := fun {k o} h => by
    rcases at_ h with ⟨_, h1, h2⟩ | ⟨h1, h2⟩
    · exact ⟨h1, h2⟩
    · exact absurd (hf.ow k o h2) h1
  have ownSub : ∀ b, Own (sV vs) (eV as) b → Own σ' env' b := fun b ⟨k, o, h1, p, h2, h6⟩ => by
    obtain ⟨h3, v, h4, h5⟩ := owOf (eV_get.mp h1)
    rw [sV_get.mp h2] at h4; cases h4
    exact ⟨k, o, h3, p, h5, h6⟩
  refine ⟨⟨R'.sub, ?_, fun k d h => ?_, fun k o h => ?_, fun k a C ks ds h => ?_, fun i j o u p h1 h2 h3 h4 => ?_, fun _ h => (nomatch h), fun _ _ h => (nomatch h), fun _ _ _ _ _ _ => rfl, fun k o b h hb => ⟨(R'.frN k o b (owOf (eV_get.mp h)).1 hb).1, rfl⟩, R'.oldN⟩, ⟨ev.fs, fun b o h => ?_, fun b o h hn => ?_, ev.ht, fun b h => ?_⟩, ownSub⟩
  · unfold eV sV
    rw [List.length_map, List.length_map, finA_len e, hl]
  · rcases at_ (eV_get.mp h) with ⟨_, h1, v, h2, h3⟩ | ⟨_, h1⟩
    · obtain ⟨v', h4, h5⟩ := R'.fz k d h1
      rw [h3] at h4; cases h4
      exact ⟨v, sV_get.mpr h2, h5⟩
    · obtain ⟨v, h2, h3⟩ := R.fz k d (eV_get.mpr h1)
      exact ⟨v, h2, h3.same ev.fs⟩
  · obtain ⟨h1, v, h2, h3⟩ := owOf (eV_get.mp h)
    obtain ⟨p, h4, h5, h6⟩ := R'.ow k o h1
    rw [h3] at h4; cases h4
    exact ⟨p, sV_get.mpr h2, h5, h6⟩
  · rcases at_ (eV_get.mp h) with ⟨_, h1, v, h2, h3⟩ | ⟨_, h1⟩
    · obtain ⟨_, _, _, z, _⟩ := R'.ex k a C ks ds h1
      exact z.elim
    · exact absurd h1 (hf.ex k a C ks ds)
  · obtain ⟨a1, v, a2, a3⟩ := owOf (eV_get.mp h1)
    obtain ⟨b1, v', b2, b3⟩ := owOf (eV_get.mp h2)
    obtain ⟨p1, h3, h5⟩ := h3
    obtain ⟨p2, h4, h6⟩ := h4
    rw [sV_get.mp h3] at a2; cases a2
    rw [sV_get.mp h4] at b2; cases b2
    exact R'.sep i j o u p a1 b1 ⟨p1, a3, h5⟩ ⟨p2, b3, h6⟩
  · rcases ev.fn b o h with z | z | z
    · exact .inl z
    · exact .inr (.inl z)
    · exact .inr (.inr ((own_begin b).mp z))
  · exact ev.hk b o h fun z => hn ((own_begin b).mp z)
  · rcases ev.aa b (ownSub b h) with z | z
    · exact .inl ((own_begin b).mp z)
    · exact .inr z
end
section
variable {P : Program} {w : World} {K : PySem.W.Frag} {mg : Str → Option Value} {base : Heap}
/-- what a spec must show of a body -/
structure Keeps (S : FSpec) (pn : List Nat) (np nl : Nat) (b : SW) : Prop where
  fit : ∀ args Q E, S args Q E → ArgsFit pn np args
  run : ∀ args Q E, S args Q E → b (KsFn pn args Q E) (startE nl args)
end
end LV
set_option maxHeartbeats 4000000
namespace LVX
open PySem PySem.Spec L2 PySem.W
theorem lookup_mem {α : Type} : ∀ {l : List (Str × α)} {x : Str} {v : α}, (l.map (·.1)).Nodup → (x, v) ∈ l → l.lookup x = some v
  | [], _, _, _, h => nomatch h
  | (y, u) :: l, x, v, n, h => by
    rw [List.map_cons, List.nodup_cons] at n
    rcases List.mem_cons.mp h with e | h
    · cases e
      simp [List.lookup]
    · have hy : x ≠ y := fun z => n.1 (z ▸ List.mem_map_of_mem (f := (·.1)) h)
      have : (x == y) = false := by simpa using hy
      simp only [List.lookup, this]
      exact lookup_mem n.2 h
theorem zip_rev {ps : List Str} {us : List Value} {i : Nat} {x : Str} {u : Value} (n : ps.Nodup) (hl : ps.length ≤ us.length) (h1 : ps[i]? = some x) (h2 : us[i]? = some u) : (ps.zip us).reverse.lookup x = some u := by
  have hm : (x, u) ∈ ps.zip us := by
    refine List.mem_of_getElem? (i := i) ?_
    rw [List.getElem?_zip_eq_some]
    exact ⟨h1, h2⟩
  have key : ((ps.zip us).map (·.1)).Nodup := by
    rw [List.map_fst_zip hl]
    exact n
  refine lookup_mem ?_ (List.mem_reverse.mpr hm)
  rw [List.map_reverse]
  exact List.pairwise_reverse.mpr (key.imp Ne.symm)
/-- a def that captures its class's cell (super() in it): the scope -/
structure SupScope (N P : List Str) (sc : Scope) : Prop where
  kind : sc.kind = .function
  co : sc.isCoroutine = false
  gen : sc.isGenerator = false
  nd : N.Nodup
  pre : N.take P.length = P
  par : ∀ x ∈ P, sc.names.lookup x = some .local
  nocell : ∀ y ∈ sc.names, y.2 ≠ .cell
  free : ∀ y : Str, sc.names.lookup y = some .free → y = "__class__"
  sup : sc.names.lookup ("super" : Str) = some .globalImplicit
  cls : sc.names.lookup ("__class__" : Str) = some .free
/-- the context of such a body -/
def cxS (CX : CXT) (P : Program) (w : World) (K : PySem.W.Frag) (mg : Str → Option Value) (base : Heap) (N : List Str) (qual : Str) (scope : Scope) (f : Addr) (cd : Value) (cc : Addr) (A : Around) (outer : List Env) (s : Shared) (H : Hp) (E : XK) : Cx where
  prog := P
  w := w
  K := K
  mg := mg
  base := base
  A := A.deeper (ksEnv qual scope s.heap.objs.size f cd cc)
  N := N
  s_0 := s
  H_0 := H
  env := ksEnv qual scope s.heap.objs.size f cd cc
  outer := outer
  stack := ksEnv qual scope s.heap.objs.size f cd cc :: outer
  ex := []
  calm := true
  fn := fun _ => false
  pn := []
  xe := fun e s' => wpAny (model P w) (A.deeper (ksEnv qual scope s.heap.objs.size f cd cc)) (leaving (ksEnv qual scope s.heap.objs.size f cd cc) e) (fun _ s'' => CX outer H s E e s'') (fun e' s'' => CX outer H s E e' s'') s'
theorem inv_startS {CX : CXT} {P : Program} {w : World} {K : PySem.W.Frag} {mg : Str → Option Value} {base : Heap} {N ps : List Str} {qual : Str} {scope : Scope} {f : Addr} {cd : Value} {cc : Addr} {A : Around} {outer : List Env} {s : Shared} {H : Hp} {E : XK} {us : List Value} {vs : List V} {h₀ : Heap} {tk : Nat} {v0 : Option Value} {oc : Value} {od : Option Addr} {osl : Array (Option Value)}
    (S : SupScope N ps scope) (hd : A.handled = none) (e0 : Env0 P w K mg base A outer s H) (hl : vs.length = ps.length) (r : Vals vs us) (hcc : K.lookup cc = some ⟨oc, od, .cell v0, osl⟩)
    (hns : h₀.Ns s.heap.objs.size (fun x => (ps.zip us).reverse.lookup x)) (hk : ∀ b o, s.heap.get? b = some o → h₀.get? b = some o) :
    Inv (cxS CX P w K mg base N qual scope f cd cc A outer s H E) [] (L2.start N vs) H { s with heap := h₀, toks := tk } := by
  have hpl : ps.length ≤ N.length := by have := congrArg List.length S.pre; rw [List.length_take] at this; omega
  have noA : ∀ b : Addr, b ∉ (cxS CX P w K mg base N qual scope f cd cc A outer s H E).ex := fun b z => absurd (show b ∈ ([] : List Addr) from z) (by simp)
  have cellOf : ∀ (y : Str) (c : Addr), (cxS CX P w K mg base N qual scope f cd cc A outer s H E).env.cells.lookup y = some c → c = cc := fun y c h => by
    have h' : ([(("__class__" : Str), cc)] : List (Str × Addr)).lookup y = some c := h
    simp only [List.lookup] at h'
    split at h'
    · exact (Option.some.inj h').symm
    · cases h'
  have ccb : base.get? cc = some ⟨oc, od, .cell v0, osl⟩ := e0.mod.kin _ _ hcc
  refine ⟨⟨e0.mod, S.kind, rfl, rfl, Nat.le_refl _, fun y z c h1 h2 => ?_, fun y hy => ?_, fun y c hf _ => (nomatch hf), fun _ => hd, Around.frames_deeper e0.frames, .inr ⟨rfl, rfl⟩, fun b z => absurd z (noA b), e0.bs, e0.bsz, fun b _ _ => noA b, fun b z => absurd z (noA b), e0.funs, e0.frf⟩,
    rfl, e0.bare, Un.kept hk, ⟨_, hns, fun i y v h1 h2 h3 => ?_⟩, fun y c h => ?_, e0.hok.fresh (Nat.le_refl _), fun y c h => ?_, fun p hp => absurd (show p ∈ ([] : List (Addr × Obj)) from hp) (by simp), e0.hok.kept hk, ?_⟩
  · have q1 : ∀ (y : Str) (c : Addr), ([(("__class__" : Str), cc)] : List (Str × Addr)).lookup y = some c → y = "__class__" := fun y c h => by
      simp only [List.lookup] at h
      split at h
      · rename_i e; exact of_decide_eq_true (by simpa using e)
      · cases h
    rw [q1 y c h1, q1 z c h2]
  · have hy : scope.names.lookup y = some .cell ∨ scope.names.lookup y = some .free := hy
    rcases hy with hy | hy
    · exact absurd rfl (S.nocell _ (PySem.mem_of_lookup hy))
    · rw [S.free y hy]
      exact ⟨cc, rfl⟩
  · have hi : i < vs.length := by
      unfold L2.start at h2
      by_cases hi : i < vs.length
      · exact hi
      · rw [List.getElem?_append_right (by simpa using hi)] at h2
        rw [List.getElem?_replicate] at h2
        split at h2 <;> cases h2
    have ha : vs[i]? = some v := by
      unfold L2.start at h2
      rw [List.getElem?_append_left (by simpa using hi), List.getElem?_map] at h2
      cases e : vs[i]? with
      | none => rw [e] at h2; cases h2
      | some a => rw [e] at h2; cases h2; rfl
    obtain ⟨u, hu, rv⟩ := r.get ha
    have hp : ps[i]? = some y := by
      rw [← S.pre, List.getElem?_take_of_lt (by omega)]; exact h1
    have ndP : ps.Nodup := by rw [← S.pre]; exact S.nd.sublist (List.take_sublist _ _)
    exact ⟨u, rv, .inl ⟨S.par y (List.mem_of_getElem? hp), zip_rev ndP (by rw [← hl, r.length]; exact Nat.le_refl _) hp hu⟩⟩
  · rw [cellOf y c h]
    exact ⟨v0, _, hk _ _ (e0.bs _ _ ccb).1, rfl⟩
  · rw [cellOf y c h]
    exact (e0.bs _ _ ccb).2
  · unfold L2.start
    show _ = N.length
    rw [List.length_append, List.length_map, List.length_replicate]
    omega
/-- what stands of the class C and of its __init__ at f -/
structure ExcF (P : Program) (K : PySem.W.Frag) (C f : Addr) (name qual : Str) (params : Arguments) (body : List Stmt) (scope : Scope) (fd : FuncData) : Prop where
  T : OexC K C
  ex : ∃ (oc : Value) (od : Option Addr) (kV doc pm : Value) (an : Option Addr) (cda cc : Addr) (ct : Value) (osl : Array (Option Value)) (ccl : Value) (cdd : Option Addr) (vs : Array Value) (ccs : Array (Option Value)) (file : Str) (tf : Tok) (cl : Value) (cld : Option Addr) (csl : Array (Option Value)),
    fd = ksFn name qual params body scope .none kV doc pm an (.ref cda) ct cc ∧ K.lookup f = some ⟨oc, od, .func fd, osl⟩ ∧ PySem.W.codeIn K (.ref cda) qual = true ∧ K.lookup cda = some ⟨ccl, cdd, .fields vs, ccs⟩ ∧ vs[2]? = some (.str file tf) ∧ ((P.main.file : Str) == file) = true ∧
    K.lookup cc = some ⟨cl, cld, .cell (some (.ref C)), csl⟩
  sub : mroIn K C (.ref C) = some true
  nosup : nsIn K mainGlobals "super" = some none
  ini : ks_superIn K C C "__init__" = some (some (.builtin "ValueError.__init__"))
  val : subIn K (.ref C) (.type "ValueError") = some true
  stat : nsIn K cStatics "thirdparty.any" = some none
  top : (P.main.scope.names.lookup ("super" : Str)).isSome = false
section
variable {P : Program} {w : World} {K : PySem.W.Frag} {mg : Str → Option Value} {base : Heap} {C f : Addr} {name qual : Str} {params : Arguments} {body rest : List Stmt} {scope : Scope} {fd : FuncData} {N ps : List Str} {CX : CXT} {k : Nat}
/-- the spec of such an __init__: self.f.. = what the rest's reading says, behind super().__init__(text) -/
theorem exc_init {sp : Sp} {eArg : Expr} {p0 p1 p2 p3 p4 : Pos} {ar : Arg} (G : ExcF P K C f name qual params body scope fd) (S : SupScope N ps scope) (hp : (params.posonlyargs ++ params.args).head? = some ar) (hself : ps[0]? = some ar.arg)
    (hbody : body = .Expr (.Call (.Attribute (.Call (.Name "super" p0) [] [] p1) "__init__" p2) [eArg] [] p3) p4 :: rest)
    (len : ∀ vs H Q E, sp vs H Q E → vs.length = ps.length)
    (hrd : ∀ (cdv : Value) (cc : Addr) (A : Around) (outer : List Env) (s : Shared) (H : Hp) (vs : List V) (Q : VK) (E : XK), Room k (A.deeper (ksEnv qual scope s.heap.objs.size f cdv cc)) → sp vs H Q E →
      ∃ a te tr, vs[0]? = some (.ref a) ∧ H a = some (exo a C none) ∧ PE (cxS CX P w K mg base N qual scope f cdv cc A outer s H E) eArg te ∧ PSs (cxS CX P w K mg base N qual scope f cdv cc A outer s H E) rest tr ∧
        te (L2.start N vs) H fun w H1 => (∃ w0, [w] = [w0]) ∧ H1 a = some (exo a C none) ∧ tr { nx := fun _ H' => Q .non H', rt := Q } (L2.start N vs) H1)
    (hst : ∀ env, starEach [eArg] env = [(false, eval eArg env)]) (hst0 : ∀ env pos, (backTo pos (starEach [] env)).any (·.1) = false := by intro _ _; rfl)
    (hsw : ∀ env, swapsWith (.Call (.Attribute (.Call (.Name "super" p0) [] [] p1) "__init__" p2) [eArg] [] p3) none p4.line env = pure false := by intro _; rfl)
    {pl : Env → Sem Bool} (hev : ∀ env, eval (.Call (.Attribute (.Call (.Name "super" p0) [] [] p1) "__init__" p2) [eArg] [] p3) env = (do
      let ov ← attributeBase (.Call (.Name "super" p0) [] [] p1) "__init__" env (eval (.Call (.Name "super" p0) [] [] p1) env)
      standAt p2.atName
      let (f, first) ← holding [ov] (getMethod ov "__init__" (pl env))
      callWith p3 f first (backTo p3 (starEach [eArg] env)) []) := by intro _; rfl) : FnOk P w K mg base CX (k + 1) f fd ps sp := by
  obtain ⟨oc, od, kV, doc, pm, an, cda, cc, ct, osl, ccl, cdd, vsC, ccs, file, tf, cl, cld, csl, rfl, lk, hcd, hcode, hvs, hfile, hcell⟩ := G.ex
  subst hbody
  refine ⟨len, fun A outer s H args us vs Q E hr e0 hb r hsp => ?_⟩
  have hl := len _ _ _ _ hsp
  have KX : K.In s.heap := e0.mod.kin.keeps fun b o e => (e0.bs b o e).1
  have lim : s.heap.NoLimit := e0.mod.nolimit.keeps fun b o e => (e0.bs b o e).1
  refine ks_codeAny_call_defAt (fd := ksFn name qual params _ scope .none kV doc pm an (.ref cda) ct cc) hr.depth (KX _ _ lk) rfl lim (codeRec_of KX hcd) rfl hb S.nocell (fun y hy => S.par y.1 (List.of_mem_zip hy).1) (fun h₀ hns hk => ?_) S.co S.gen S.kind
  have I := inv_startS (CX := CX) (qual := qual) (f := f) (cd := .ref cda) (E := E) (tk := s.toks + (ps.zip us).length) S hr.hd e0 hl r hcell hns hk
  obtain ⟨a, te, tr, hv0, ha, he, hr', q⟩ := hrd (.ref cda) cc A outer s H vs Q E (hr.deeper _) hsp
  have X₁ : K.In h₀ := I.kIn
  have hpsl : ps.length ≤ us.length := by rw [← hl, r.length]; exact Nat.le_refl _
  have ndP : ps.Nodup := by rw [← S.pre]; exact S.nd.sublist (List.take_sublist _ _)
  obtain ⟨u0, hu0, ru0⟩ := r.get hv0
  obtain rfl : u0 = Value.ref a := ru0
  have hm0 : (ps.zip us).reverse.lookup ar.arg = some (.ref a) := zip_rev ndP hpsl hself hu0
  obtain ⟨t1, hoa⟩ := exo_at I.hok ha
  obtain ⟨cdC, hcd1⟩ : ∃ cd, clsIn K C = some cd := by
    obtain ⟨nm, q, N', bs, bm, sn, sub, ab, col, dd, k0, k1, k2, k3, k5, hC, hbm⟩ := G.T.cls
    exact ⟨_, by unfold PySem.W.clsIn; rw [hC] <;> rfl⟩
  obtain ⟨oD, hD1, hD2⟩ : ∃ oD, h₀.get? C = some oD ∧ oD.data = .cls cdC := by
    unfold clsIn at hcd1
    split at hcd1
    · rename_i c d cd' sl ho
      cases hcd1
      exact ⟨_, X₁ _ _ ho, rfl⟩
    · cases hcd1
  have hka : scope.names.lookup ar.arg = some .local := S.par _ (List.mem_of_getElem? hself)
  refine ks_wpAt_execs_cons (ks_wpAt_Expr_any (ks_wpAt_MethodCall (pl := pl _) (ks_wpAt_super_base (env := ksEnv qual scope s.heap.objs.size f (.ref cda) cc) S.sup S.cls rfl rfl (X₁ _ _ lk) rfl hp rfl (X₁ _ _ hcode) rfl hvs hfile G.top ?_) (hev _)) I.quiet (hsw _))
  have hg : h₀.Ns mainGlobals mg := I.mod.glob.keeps I.bk
  obtain ⟨mb, hmb1, hmb2⟩ := I.mod.blt
  refine ks_loadName_global S.kind S.sup (Calls.loadGlobal_builtin (env := ksEnv qual scope s.heap.objs.size f (.ref cda) cc) hg (PySem.W.mg_none_of X₁ hg G.nosup) (hmb1.keeps I.bk) ((hmb2 _ (by decide +kernel)).trans (by decide +kernel : bootBuiltins "super" = some (.type "super"))) ⟨rfl, ?_⟩)
  refine wpAny_loadName_free S.kind S.cls rfl ⟨_, X₁ _ _ hcell, rfl⟩ ?_
  refine wpAny_loadName_local S.kind hka hns hm0 ?_
  refine ks_wpAny_isType_cls hD1 hD2 ⟨rfl, ?_⟩
  obtain ⟨t1k, hs1⟩ : ∃ t, t = s.toks + (ps.zip us).length := ⟨_, rfl⟩
  have hnc : ∀ c', ({ cls := .ref C, dict := none, data := .fields #[.ref t1, .none, .none, .none, .bool false, .none] } : Obj).data ≠ .cls c' := fun c' z => nomatch z
  refine ks_wpAny_call_super hD1 hD2 hoa rfl hnc (looks_mroIn X₁ G.sub) (fun h' eso k' => ?_)
  have I2 : Inv (cxS CX P w K mg base N qual scope f (.ref cda) cc A outer s H E) [] (L2.start N vs) H { s with heap := h', toks := s.toks + (ps.zip us).length } := I.kept (t' := s.toks + (ps.zip us).length) (h' := h') fun b o e => k' b o e
  have X₂ : K.In h' := I2.kIn
  have hini : (clsIn K C).bind (fun cd => alongIn K "__init__" ((cd.mro.dropWhile (· != .ref C)).drop 1)) = some (some (.builtin "ValueError.__init__")) := G.ini
  rw [hcd1] at hini
  have hoa2 := k' _ _ hoa
  have hI : Looks (model P w) h' (isInstance (.ref a) (.type "ValueError")) true := (PySem.W.InstAt.type (od := none) (M := model P w) ⟨hoa2, rfl, rfl, trivial⟩).andThen (looks_subIn X₂ G.val)
  have hxC : a ≠ C := fun z => by
    rw [z, k' _ _ hD1] at hoa2
    cases hoa2
    cases hD2
  refine kxs_getMethod kxs_ValueError eso (looks_opaque X₂ G.stat) (l₀ := cdC.mro) (fun A Q E s k q => wpAny_bind ((looks_clsIn X₂ hcd1) A _ E s k (wpAny_pure q))) rfl X₂ hini hI hxC (by decide +kernel) ?_
  have I2a : Inv (cxS CX P w K mg base N qual scope f (.ref cda) cc A outer s H E) [] (L2.start N vs) H { s with heap := h'.push (kxs_mw "ValueError.__init__" a), toks := s.toks + (ps.zip us).length + 1 } :=
    I2.kept (t' := s.toks + (ps.zip us).length + 1) (h' := h'.push (kxs_mw "ValueError.__init__" a)) fun b o e => Heap.get?_push_of_some _ e
  have hlt : s.heap.objs.size ≤ h'.objs.size := I2.sz
  have hltL : s.heap.objs.size < h'.objs.size := I2.lt
  have pinOk : ∀ p ∈ [(h'.objs.size, kxs_mw "ValueError.__init__" a)], (h'.push (kxs_mw "ValueError.__init__" a)).get? p.1 = some p.2 ∧ H p.1 = none ∧ p.1 ≠ (cxS CX P w K mg base N qual scope f (.ref cda) cc A outer s H E).env.locals ∧ p.1 ∉ (cxS CX P w K mg base N qual scope f (.ref cda) cc A outer s H E).fs ∧ ∀ v, p.2.data ≠ .cell v := fun p hp' => by
    obtain rfl := List.mem_singleton.mp hp'
    refine ⟨Heap.get?_push_size _ rfl, I2.hok.fresh (Nat.le_refl _), Nat.ne_of_gt hltL, I2.nofs (Nat.le_refl _), fun v z => nomatch z⟩
  have I3 := I2a.pins_of pinOk
  have pst : ∀ l, backTo p3 (starEach [eArg] (cxS CX P w K mg base N qual scope f (.ref cda) cc A outer s H E).env) = l → True := fun _ _ => True.intro
  have PAe : PA (cxS CX P w K mg base N qual scope f (.ref cda) cc A outer s H E) [eArg] (tCons te tNil) := pa_cons he pa_nil (by rw [hst]; rfl)
  refine kxs_callWith (i := "ValueError.__init__") (x := a) (by rw [hst]; rfl) ?_
  have hspl := PAe.run p3 _ _ _ H _ I3 (show tCons te tNil (L2.start N vs) H (fun ws H1 => (∃ w0, ws = [w0]) ∧ H1 a = some (exo a C none) ∧ tr { nx := fun _ H' => Q .non H', rt := Q } (L2.start N vs) H1) from ?_)
  · rw [hst] at hspl ⊢
    refine Calls.evalArgs_plain (wpAny_mono hspl (fun us' s₁ hh => ?_) fun _ _ z => z)
    obtain ⟨ws, H1, I4, r4, ⟨w0, hw⟩, ha1, q4⟩ := hh
    have hu4 := (I4.pin (h'.objs.size, kxs_mw "ValueError.__init__" a) (List.mem_append_right _ (List.mem_singleton.mpr rfl))).1
    refine ⟨hu4, ?_⟩
    subst hw
    have hlen : us'.length ≤ sizeLine := by rw [← Paired.length r4, sizeLine_eq]; show 1 ≤ 16777216; decide
    obtain ⟨t2, hoe⟩ := exo_at I4.hok ha1
    obtain ⟨nm, q', N', bs, bm, sn, sub, ab, col, dd, k0, k1, k2, k3, k5, hC, hbm⟩ := G.T.cls
    have hC4 := I4.kIn _ _ hC
    obtain ⟨h4, g4, d4, tk4, os4⟩ := s₁
    have FB := PySem.F.excBase_ValueError
    show wpAny _ _ (call (.ref h'.objs.size) us') _ _ _
    refine wpAny_call (codeAny_of_tree ?_)
    show wpAny _ _ (callAny (.ref h'.objs.size) ⟨us', []⟩) _ _ _
    simp only [callAny]
    refine wpAny_bind (wpAny_load hu4 ?_)
    simp only [kxs_mw, show (Value.type "method-wrapper" == Value.type "method" || Value.type "method-wrapper" == Value.type "builtin_function_or_method" || Value.type "method-wrapper" == Value.type "method-wrapper") = true by decide, if_true]
    refine KFB.if_so (by decide) ?_
    refine wpAny_bind (check_bound_init FB.toExcCallFacts hC4 hoe rfl ?_)
    refine wpAny_bind (wpAny_pure (wpAny_pure ?_))
    refine ⟨plainId_quiet FB.init.plain _, codeAny_builtin FB.initEntry ?_⟩
    refine exc_init_tree (cls := .ref C) (t0 := t2) (dv := none) (c2 := .none) (c3 := .none) (b4 := .bool false) hoe hlen fun h5 k5 hx5 _ => ?_
    have J := I4.write (t' := tk4) (x := a) (e := a) (o := exo a C none) (by rw [ha1]; exact True.intro) (.inl rfl) k5 ⟨_, hx5⟩ (exo_ok hx5)
    have eu : upd H1 a (exo a C none) = H1 := by
      funext b
      by_cases hb : b = a
      · rw [hb, upd_same, ha1]
      · rw [upd_ne hb]
    rw [eu] at J
    have J0 := J.pins_of (pins' := []) fun p hp' => (nomatch hp')
    have fin : ∀ {σ' : St} {H' : Hp} {v : V} {u : Value} {s' : Shared}, Inv (cxS CX P w K mg base N qual scope f (.ref cda) cc A outer s H E) [] σ' H' s' → RelV v u → Q v H' → CE outer P w H s Q u s' :=
      fun {σ' H' v u s'} J rv q => ⟨v, H', J.os, J.bare, J.base, J.hok, rv, q⟩
    refine wpAt_of_wpAny (wpAny_mono (hr'.run [] _ _ _ _ J0 q4) (fun fl s' hs => ?_) fun e s' hs => hs)
    cases fl with
    | ret u =>
      obtain ⟨v, σ', H', J, rv, q⟩ := hs
      exact fin J rv q
    | next =>
      obtain ⟨σ', H', J, q⟩ := hs
      exact fin (v := V.non) (u := Value.none) J rfl q
    | brk =>
      obtain ⟨_, _, _, q⟩ := hs
      exact False.elim q
    | cont =>
      obtain ⟨_, _, _, q⟩ := hs
      exact False.elim q
  · exact q
end
end LVX
set_option maxHeartbeats 1000000
namespace LV
open PySem PySem.Spec L2
def spX1 (C : Addr) (f : Str) : Sp := fun vs H Q _ => ∃ (a : Addr) (v : V), vs = [.ref a, v] ∧ H a = some (exo a C none) ∧ ∀ d, H d = none → d ≠ a → Q .non (upd (upd H d (exd d [(f, v)])) a (exo a C (some d)))
/-- how the text super().__init__(e) is read; by rfl at the text -/
def SupEv (p0 p1 p2 p3 : Pos) (e : Expr) (pl : Env → Sem Bool) : Prop := ∀ env, eval (.Call (.Attribute (.Call (.Name "super" p0) [] [] p1) "__init__" p2) [e] [] p3) env = (do
      let ov ← attributeBase (.Call (.Name "super" p0) [] [] p1) "__init__" env (eval (.Call (.Name "super" p0) [] [] p1) env)
      standAt p2.atName
      let (f, first) ← holding [ov] (getMethod ov "__init__" (pl env))
      callWith p3 f first (backTo p3 (starEach [e] env)) [])
def SupSw (p0 p1 p2 p3 p4 : Pos) (e : Expr) : Prop := ∀ env, swapsWith (.Call (.Attribute (.Call (.Name "super" p0) [] [] p1) "__init__" p2) [e] [] p3) none p4.line env = pure false
theorem exc1 {P : Program} {w : World} {K : PySem.W.Frag} {mg : Str → Option Value} {base : Heap} {C fI : Addr} {name qual : Str} {params : Arguments} {body : List Stmt} {scope : Scope} {fd : FuncData} {p f msg : Str} {CX : CXT} {j : Nat} {pl : Env → Sem Bool} {p0 p1 p2 p3 p4 p5 p6 p7 p8 p9 p10 : Pos} {ar : Arg}
    (G : LVX.ExcF P K C fI name qual params body scope fd) (S : LVX.SupScope ["self", p] ["self", p] scope) (hp : (params.posonlyargs ++ params.args).head? = some ar) (hself : ar.arg = "self")
    (hbody : body = [.Expr (.Call (.Attribute (.Call (.Name "super" p0) [] [] p1) "__init__" p2) [.Constant (.str msg) j p3] [] p4) p5, .Assign [.Attribute (.Name "self" p6) f p7] (.Name p p8) p9])
    (hno : PySem.W.findIn K (.ref C) f = some none) (hpd : (p == ("__debug__" : Str)) = false) (hpc : (p == ("__classdict__" : Str)) = false)
    (hev : SupEv p0 p1 p2 p4 (.Constant (.str msg) j p3) pl) (hsw : SupSw p0 p1 p2 p4 p5 (.Constant (.str msg) j p3)) : FnOk P w K mg base CX 1 fI fd ["self", p] (spX1 C f) := by
  refine LVX.exc_init (hev := hev) (hsw := hsw) (k := 0) G S hp (by rw [hself]; rfl) hbody (fun vs H Q E ⟨a, v, h, _⟩ => by rw [h]; rfl) (fun cdv cc A outer s H vs Q E hr ⟨a, v, hvs, ha, q⟩ => ?_) (fun _ => rfl)
  subst hvs
  refine ⟨a, _, _, rfl, ha, pe_str, pss_one (ps_ost (pe_var (i := 0) rfl (.inl (S.par _ (by simp)))) (pe_var (i := 1) rfl (.inl (S.par _ (by simp))) hpd hpc)), ⟨_, rfl⟩, ha, ?_⟩
  exact ⟨v, rfl, .ref a, rfl, a, C, rfl, G.T, hno, .inl ⟨ha, fun dx n ne => q dx n ne⟩⟩
/-- the class named Cn, its field f -/
structure XC (P : Program) (w : World) (K : PySem.W.Frag) (mg : Str → Option Value) (base : Heap) (Cn f : Str) : Prop where
  ex : ∃ (C fI : Addr) (fd : FuncData) (p : Str), mg Cn = some (.ref C) ∧ OexC K C ∧ PySem.W.findIn K (.ref C) "__init__" = some (some (.ref fI)) ∧ PySem.W.typeIn K (.ref fI) = some (.type "function") ∧
    FnOk P w K mg base (L2.CX P w) 1 fI fd ["self", p] (spX1 C f) ∧ Binds K fd ["self", p] []
section
variable {X : Cx} {c : Ct} {W : WX} {e : Expr} {es : List Expr} {wl : AW} {pos pos' p : Pos} {Cn f : Str} {body suite : List Stmt} {wb : SW}
/-- raise Cn(e) -/
def wRaise1 (Cn f : Str) (wl : AW) : SW := fun K env => wl env (fun rs e => ∃ d e2, frzL e rs = some ([d], e2) ∧ K.ex ⟨Cn, [f], [d]⟩ e2) K.ex
theorem ss_raise1 (T : XC X.prog X.w X.K X.mg X.base Cn f) (hc : X.calm = true) (tk : Takes X W) (hr : Room 2 X.A) (hg : Gl X Cn) (ha : SA X c W [e] wl) (hdb : (Cn == ("__debug__" : Str)) = false := by decide)
    (he : starEach [e] X.env = (false, eval e X.env) :: starEach [] X.env := by rfl) (hpl : (backTo pos' (starEach [] X.env)).any (·.1) = false := by rfl) :
    SS X c W (.Raise (some (.Call (.Name Cn p) [e] [] pos')) none pos) (wRaise1 Cn f wl) := by
  obtain ⟨C, fI, fd, pp, hm, To, iC, tI, F1, hb⟩ := T.ex
  refine ⟨PS.imp (ps_raise hc tk (pmk_oex (pos := pos') (p := p) To iC tI F1 hr hb .nil passL hg hm ha.pa hdb he hpl)) fun D σ H q => ?_, ⟨fun k q => ha.mo.mo (fun _ _ ⟨d, e2, a, z⟩ => ⟨d, e2, a, k.ex _ _ z⟩) (fun _ _ z => k.ex _ _ z) q⟩⟩
  obtain ⟨F, env, R, q⟩ := q
  refine ⟨F, env, R, ha.mo.mo (fun rs e1 ⟨d, e2, hf, z⟩ => ?_) (fun _ _ z => z.xp) q⟩
  intro vs F1 H1 R1 ev1 ok
  obtain ⟨F2, R2, ev2, rl⟩ := frzL_ok R1 ok hf
  cases rl with
  | @cons v _ _ _ rv rl =>
    cases rl
    refine ⟨by show 1 ≤ 1000; decide, fun a hna => ⟨a, v, rfl, upd_same, fun dd hd hda => ⟨rfl, dd, [(f, v)], ?_, ?_, ?_, ?_⟩⟩⟩
    · rw [upd_same]
    · rw [upd_ne hda, upd_same]
    · rw [upd_ne hda] at hd; exact hd
    · rw [upd_ne hda] at hd
      have hdF : F2 dd = none := R2.sub.free hd
      have eH : upd (del (upd (upd (upd H1 a (exo a C none)) dd (exd dd [(f, v)])) a (exo a C (some dd))) a) dd (.xd [(f, v)]) = upd H1 dd (.xd [(f, v)]) := by
        funext b
        by_cases hb1 : b = dd
        · rw [hb1, upd_same, upd_same]
        · rw [upd_ne hb1, upd_ne hb1]
          by_cases hb2 : b = a
          · rw [hb2, del_same, hna]
          · rw [del_ne hb2, upd_ne hb2, upd_ne hb1, upd_ne hb2]
      rw [eH]
      have ev3 := Evo.newF (o := HO.xd [(f, v)]) hd hdF
      exact z _ _ σ _ _ (R2.evo ev3 (same_newF R2.sub hd)) ((ev1.trans ev2).trans ev3.nob) ⟨C, hm, rfl, .inr ⟨dd, [(f, v)], rfl, upd_same, rfl, .cons (rv.same ev3.fs) .nil⟩⟩
def noEx : En → Bool
  | [] => true
  | some (.ex _ _ _ _) :: _ => false
  | _ :: r => noEx r
theorem noEx_get : ∀ {env : En} {i : Nat} {a : Addr} {C : Str} {ks : List Str} {vs : List D}, noEx env = true → env[i]? = some (some (.ex a C ks vs)) → False
  | [], i, _, _, _, _, _, e => by simp at e
  | none :: r, 0, _, _, _, _, h, e => by simp at e
  | none :: r, i + 1, _, _, _, _, h, e => noEx_get (env := r) (i := i) h (by simpa using e)
  | some (.fz _) :: r, 0, _, _, _, _, h, e => by simp at e
  | some (.fz _) :: r, i + 1, _, _, _, _, h, e => noEx_get (env := r) (i := i) h (by simpa using e)
  | some (.ow _) :: r, 0, _, _, _, _, h, e => by simp at e
  | some (.ow _) :: r, i + 1, _, _, _, _, h, e => noEx_get (env := r) (i := i) h (by simpa using e)
  | some (.ex _ _ _ _) :: r, _, _, _, _, _, h, _ => nomatch h
/-- the ends of an except suite: the name goes -/
def KsSu (i : Nat) (K : Ks) : Ks where
  nx := fun e => noEx (e.set i none) = true ∧ K.nx (e.set i none)
  rt := fun r e => noEx (e.set i none) = true ∧ K.rt r (e.set i none)
  bk := fun e => noEx (e.set i none) = true ∧ K.bk (e.set i none)
  ct := fun e => noEx (e.set i none) = true ∧ K.ct (e.set i none)
  ex := fun _ _ => False
def wTryAs (wb : SW) (catch_ : Str → Option Bool) (i : Nat) (ws : SW) : SW := fun K env => wb { K with ex := fun x e => noEx e = true ∧ ∃ b, catch_ x.C = some b ∧ if b = true then ∀ a, ws (KsSu i K) (e.set i (some (.ex a x.C x.ks x.vs))) else K.ex x e } env
theorem Rel.setEx {M : Md} {F H : Hp} {σ : St} {env : En} {i : Nat} {a : Addr} {x : Xn} {cl : Value} {d : Option Addr} (R : Rel M c F H σ env) (hi : i ∉ c.pn) (n : noEx env = true) (xo : XOk M F x cl d) :
    Rel M { c with xc := fun a' c' d' => a' = a ∧ c' = cl ∧ d' = d } F H (σ.set i (some (.ref a))) (env.set i (some (.ex a x.C x.ks x.vs))) := by
  have key : ∀ {j : Nat} {v : Val}, (env.set i (some (.ex a x.C x.ks x.vs)))[j]? = some (some v) → (i = j ∧ v = .ex a x.C x.ks x.vs ∧ i < env.length) ∨ (i ≠ j ∧ env[j]? = some (some v)) := fun {j v} h => by
    by_cases e : i = j
    · subst e
      by_cases hl : i < env.length
      · rw [List.getElem?_set_self hl] at h; cases h; exact .inl ⟨rfl, rfl, hl⟩
      · rw [List.getElem?_eq_none (by rw [List.length_set]; omega)] at h; cases h
    · rw [List.getElem?_set_ne e] at h; exact .inr ⟨e, h⟩
  refine ⟨R.sub, by rw [List.length_set, List.length_set]; exact R.len, fun j d h => ?_, fun j o h => ?_, fun j b C ks vs h => ?_, fun j k o u p h1 h2 h3 h4 => ?_, fun j hj => ?_, R.old, fun j o p h hn hp => ?_, fun j o b h hb => ?_, R.oldN⟩
  · rcases key h with ⟨_, z, _⟩ | ⟨e, h⟩
    · cases z
    · rw [List.getElem?_set_ne e]; exact R.fz j d h
  · rcases key h with ⟨_, z, _⟩ | ⟨e, h⟩
    · cases z
    · rw [List.getElem?_set_ne e]; exact R.ow j o h
  · rcases key h with ⟨e, z, hl⟩ | ⟨e, h⟩
    · cases z
      subst e
      rw [List.getElem?_set_self (by rw [← R.len]; exact hl)]
      exact ⟨rfl, cl, d, ⟨rfl, rfl, rfl⟩, xo⟩
    · exact (noEx_get n h).elim
  · rcases key h1 with ⟨_, z, _⟩ | ⟨e1, h1⟩
    · cases z
    · rcases key h2 with ⟨_, z, _⟩ | ⟨e2, h2⟩
      · cases z
      · rw [List.getElem?_set_ne e1] at h3
        rw [List.getElem?_set_ne e2] at h4
        exact R.sep j k o u p h1 h2 h3 h4
  · have : i ≠ j := fun z => hi (z ▸ hj)
    rw [List.getElem?_set_ne this]; exact R.pin j hj
  · rcases key h with ⟨_, z, _⟩ | ⟨e, h⟩
    · cases z
    · rw [List.getElem?_set_ne e] at hp; exact R.fr j o p h hn hp
  · rcases key h with ⟨_, z, _⟩ | ⟨e, h⟩
    · cases z
    · exact R.frN j o b h hb
theorem own_setEx {σ : St} {env : En} {i : Nat} {v : V} {a : Addr} {C : Str} {ks : List Str} {vs : List D} : ∀ b, Own (σ.set i (some v)) (env.set i (some (.ex a C ks vs))) b → Own σ env b := fun b ⟨j, o, h1, h2⟩ => by
  by_cases e : i = j
  · subst e
    by_cases hl : i < env.length
    · rw [List.getElem?_set_self hl] at h1; cases h1
    · rw [List.getElem?_eq_none (by rw [List.length_set]; omega)] at h1; cases h1
  · rw [List.getElem?_set_ne e] at h1 h2
    exact ⟨j, o, h1, h2⟩
/-- back from a suite: slot i is forgotten in both -/
theorem Rel.unEx {M : Md} {F H : Hp} {σ : St} {env : En} {i : Nat} {xc : Addr → Value → Option Addr → Prop} (R : Rel M { c with xc := xc } F H σ env) (hi : i ∉ c.pn) (n : noEx (env.set i none) = true) : Rel M c F H (σ.set i none) (env.set i none) := by
  have key : ∀ {j : Nat} {v : Val}, (env.set i none)[j]? = some (some v) → i ≠ j ∧ env[j]? = some (some v) := fun {j v} h => by
    by_cases e : i = j
    · subst e
      by_cases hl : i < env.length
      · rw [List.getElem?_set_self hl] at h; cases h
      · rw [List.getElem?_eq_none (by rw [List.length_set]; omega)] at h; cases h
    · rw [List.getElem?_set_ne e] at h; exact ⟨e, h⟩
  refine ⟨R.sub, by rw [List.length_set, List.length_set]; exact R.len, fun j d h => ?_, fun j o h => ?_, fun j b C ks vs h => (noEx_get n h).elim, fun j k o u p h1 h2 h3 h4 => ?_, fun j hj => ?_, R.old, fun j o p h hn hp => ?_, fun j o b h hb => ?_, R.oldN⟩
  · obtain ⟨e, h⟩ := key h
    rw [List.getElem?_set_ne e]; exact R.fz j d h
  · obtain ⟨e, h⟩ := key h
    rw [List.getElem?_set_ne e]; exact R.ow j o h
  · obtain ⟨e1, h1⟩ := key h1
    obtain ⟨e2, h2⟩ := key h2
    rw [List.getElem?_set_ne e1] at h3
    rw [List.getElem?_set_ne e2] at h4
    exact R.sep j k o u p h1 h2 h3 h4
  · have : i ≠ j := fun z => hi (z ▸ hj)
    rw [List.getElem?_set_ne this]; exact R.pin j hj
  · obtain ⟨e, h⟩ := key h
    rw [List.getElem?_set_ne e] at hp; exact R.fr j o p h hn hp
  · exact R.frN j o b (key h).2 hb
theorem own_unEx {σ : St} {env : En} {i : Nat} : ∀ b, Own (σ.set i none) (env.set i none) b → Own σ env b := fun b ⟨j, o, h1, h2⟩ => by
  by_cases e : i = j
  · subst e
    by_cases hl : i < env.length
    · rw [List.getElem?_set_self hl] at h1; cases h1
    · rw [List.getElem?_eq_none (by rw [List.length_set]; omega)] at h1; cases h1
  · rw [List.getElem?_set_ne e] at h1 h2
    exact ⟨j, o, h1, h2⟩
/-- what the rule needs of the classes that may fly -/
def Catches (K : PySem.W.Frag) (mg : Str → Option Value) (cv : Value) (catch_ : Str → Option Bool) : Prop := ∀ Cn b C, catch_ Cn = some b → mg Cn = some (.ref C) → PySem.W.exmOne K (.ref C) cv = some b
theorem ss_tryAs {x n : Str} {cv : Value} {i : Nat} {b₀ : Stmt} {np : Pos} {ws : SW} {catch_ : Str → Option Bool} (hs : X.stack = X.env :: X.outer) (hf : X.env.frame = some X.env.locals) (hN : X.N.Nodup) (hi : X.N[i]? = some n) (hln : X.env.kindOf n = some .local) (hc : Names X x cv) (tk : Takes X W)
    (hip : i ∉ c.pn) (hca : Catches X.K X.mg cv catch_) (mb : MonoS wb) (ms : MonoS ws)
    (hb : ∀ (W' : WX) (pn : List (Addr × Obj)) (xe : Value → Shared → Prop), Takes (X.tr pn xe) W' → PassesOwn (model X.prog X.w) X.A X.env xe → SSs (X.tr pn xe) c W' body wb)
    (hsu : ∀ (a : Addr) (oe : Obj) (cls : Value) (d : Option Addr) (pn : List (Addr × Obj)), Zc cls d oe → (∃ vs, oe.data = .fields vs) → SSs (X.suite a ((a, oe) :: pn)) { c with xc := fun a' c' d' => a' = a ∧ c' = cls ∧ d' = d } W0 (b₀ :: suite) ws) :
    SS X c W (.Try body [.ExceptHandler (some (.Name x np)) (some n) (b₀ :: suite) pos'] [] [] pos) (wTryAs wb catch_ i ws) := by
  refine ⟨PS.imp (ps_try_as hs hf hN hi hln hc tk (tb := fun W' => SRd (mdX X) c W' wb) (ts := fun a cls d => SRd (mdX X) { c with xc := fun a' c' d' => a' = a ∧ c' = cls ∧ d' = d } W0 ws) (fun W' pn xe tk' hp => (hb W' pn xe tk' hp).ps) (fun a oe cls d pn hz hd => (hsu a oe cls d pn hz hd).ps)) fun D σ H q => ?_,
    ⟨fun {K K' env} k q => mb.mo (K := { K with ex := fun x e => noEx e = true ∧ ∃ b, catch_ x.C = some b ∧ if b = true then ∀ a, ws (KsSu i K) (e.set i (some (.ex a x.C x.ks x.vs))) else K.ex x e }) ⟨k.nx, k.rt, k.bk, k.ct, fun x e ⟨n, b, h, z⟩ => ⟨n, b, h, ?_⟩⟩ q⟩⟩
  · obtain ⟨F, env, R, q⟩ := q
    refine ⟨F, env, R, mb.mo (K := { KsOf (mdX X) c W D F H σ env with ex := fun x e => noEx e = true ∧ ∃ b, catch_ x.C = some b ∧ if b = true then ∀ a, ws (KsSu i (KsOf (mdX X) c W D F H σ env)) (e.set i (some (.ex a x.C x.ks x.vs))) else (KsOf (mdX X) c W D F H σ env).ex x e }) ⟨fun _ z => z, fun _ _ z => z, fun _ z => z, fun _ z => z, fun xx e ⟨n, b, hcb, z⟩ => ?_⟩ q⟩
    intro cl d σ' F' H' R' ev xo
    obtain ⟨C, hmC, hcl, hx⟩ := id xo
    refine ⟨b, by rw [hcl]; exact hca _ _ _ hcb hmC, fun hbt a hna => ?_, fun hbf => ?_⟩
    · rw [if_pos hbt] at z
      have R2 := R'.setEx (a := a) hip n xo
      have ev2 := ev.trans (Evo.sub (own_setEx (σ := σ') (env := e) (i := i) (v := .ref a) (a := a) (C := xx.C) (ks := xx.ks) (vs := xx.vs)))
      refine ⟨F', _, R2, ms.mo (K := KsSu i (KsOf (mdX X) c W D F H σ env)) ⟨fun e2 z => ?_, fun r e2 z => ?_, fun e2 z => ?_, fun e2 z => ?_, fun _ _ z => z.elim⟩ (z a)⟩
      · intro σ3 F3 H3 R3 ev3
        exact z.2 _ F3 H3 (R3.unEx hip z.1) ((ev2.trans ev3).trans (Evo.sub own_unEx))
      · intro v σ3 F3 H3 R3 ev3 ok
        refine z.2 v _ F3 H3 (R3.unEx hip z.1) ((ev2.trans ev3).trans (Evo.sub own_unEx)) ?_
        cases r with
        | fz d => exact ok
        | sl j => exact ok
        | ow o =>
          obtain ⟨p, a1, a2, a3, a4, a5⟩ := ok
          exact ⟨p, a1, a2, a3, fun b hb zz => a4 b hb (own_unEx b zz), a5⟩
      · intro σ3 F3 H3 R3 ev3
        exact z.2 _ F3 H3 (R3.unEx hip z.1) ((ev2.trans ev3).trans (Evo.sub own_unEx))
      · intro σ3 F3 H3 R3 ev3
        exact z.2 _ F3 H3 (R3.unEx hip z.1) ((ev2.trans ev3).trans (Evo.sub own_unEx))
    · rw [hbf, if_neg Bool.false_ne_true] at z
      exact z cl d σ' F' H' R' ev xo
  · cases b with
    | true =>
      rw [if_pos rfl] at z ⊢
      exact fun a => ms.mo (K := KsSu i K) ⟨fun _ ⟨a, b⟩ => ⟨a, k.nx _ b⟩, fun _ _ ⟨a, b⟩ => ⟨a, k.rt _ _ b⟩, fun _ ⟨a, b⟩ => ⟨a, k.bk _ b⟩, fun _ ⟨a, b⟩ => ⟨a, k.ct _ b⟩, fun _ _ z => z⟩ (z a)
    | false =>
      rw [if_neg Bool.false_ne_true] at z ⊢
      exact k.ex _ _ z
/-- n.f, n the caught exception in slot i, of the class named Cn -/
def kvD : List Str → List D → Str → Option D
  | k :: ks, v :: vs, f => if f = k then some v else kvD ks vs f
  | _, _, _ => none
def wExA (i : Nat) (Cn f : Str) : EW := fun env Q _ => match env[i]? with
  | some (some (.ex a C ks vs)) => C = Cn ∧ ∃ d, kvD ks vs f = some d ∧ Q (.fz d) env
  | _ => False
theorem Mono.exA {i : Nat} {Cn f : Str} : Mono (wExA i Cn f) := ⟨fun {env Q Q' E E'} hQ hE h => by
  unfold wExA at h ⊢
  split at h
  · obtain ⟨a, d, b, q⟩ := h; exact ⟨a, d, b, hQ _ _ q⟩
  · exact h⟩
theorem kvD_get {M : Md} {F : Hp} : ∀ {fv : List (Str × V)} {ks : List Str} {vs : List D} {f : Str} {d : D}, fv.map (·.1) = ks → RepL M F (fv.map (·.2)) vs → kvD ks vs f = some d → ∃ v, fv.lookup f = some v ∧ Rep M F v d
  | [], ks, vs, f, d, h1, h2, h => by subst h1; simp [kvD] at h
  | (g, u) :: fv, ks, vs, f, d, h1, h2, h => by
    subst h1
    cases h2 with
    | cons r rl =>
      rw [List.map_cons] at h
      unfold kvD at h
      rw [lookup_put]
      by_cases e : f = g
      · rw [if_pos e] at h ⊢; cases h; exact ⟨u, rfl, r⟩
      · rw [if_neg e] at h ⊢; exact kvD_get rfl rl h
theorem se_exA {a : Addr} {oe : Obj} {cls : Value} {d : Option Addr} {pn : List (Addr × Obj)} {C : Addr} {i : Nat} {n : Str} {pos : Pos} {px : Pos} {nm : Str} {c' : Ct} (hxc : c'.xc = fun a' c' d' => a' = a ∧ c' = cls ∧ d' = d) (T : XfC X.K C) (hm : X.mg Cn = some (.ref C)) (hno : PySem.W.findIn X.K (.ref C) n = some none) (hz : Zc cls d oe) (hf : ∃ vs, oe.data = .fields vs)
    (hN : X.N[i]? = some nm) (hv : Vis X.env.scope nm) (hdb : (nm == ("__debug__" : Str)) = false := by decide) (hcd : (nm == ("__classdict__" : Str)) = false := by decide) (hb : attributeBase (.Name nm px) n X.env (eval (.Name nm px) X.env) = eval (.Name nm px) X.env := by rfl) :
    SE (X.suite a ((a, oe) :: pn)) c' W0 (.Attribute (.Name nm px) n pos) (wExA i Cn n) := by
  refine ⟨PE.imp (pe_xf T hno hz hf (pe_var (X := X.suite a ((a, oe) :: pn)) hN hv hdb hcd) hb) fun σ H Q h => ?_, .exA⟩
  obtain ⟨F, env, R, h⟩ := h
  unfold wExA at h
  split at h
  · rename_i a' C' ks vs hex
    obtain ⟨hC, dd, hk, q⟩ := h
    obtain ⟨h1, cl, d', h2, C2, h3, h4, h5⟩ := R.ex i a' C' ks vs hex
    rw [hxc] at h2
    obtain ⟨rfl, rfl, rfl⟩ := h2
    subst hC
    have h3' : X.mg C' = some (.ref C2) := h3
    rw [hm] at h3'
    have eC : C = C2 := by injection h3' with e; injection e
    subst eC
    rcases h5 with ⟨_, z1, z2⟩ | ⟨ax, fv, e1, e2, e3, e4⟩
    · have z1' : ks = [] := z1
      subst z1'
      simp [kvD] at hk
    · obtain ⟨v, l, rv⟩ := kvD_get e3 e4 hk
      exact ⟨_, h1, rfl, h4, ax, fv, v, e1, R.sub _ _ e2, l, q v F H R Evo.refl rv⟩
  · exact h.elim
end
end LV
namespace LV
open PySem PySem.Spec L2
mutual
def D.pd : D → PyData
  | .non => .none
  | .bl b => .bool b
  | .int i => .int i
  | .str x => .str x
  | .tup ds => .tuple (pdL ds)
  | .lst ds => .list (pdL ds)
  | .scr ns => .list (ns.map PyData.int)
  | .dct _ _ => .dict []
  | .ins _ _ _ => .dict []
  | .cls _ => .dict []
  | .ptr _ => .dict []
  | .tpn _ => .dict []
  | .exn _ _ _ => .dict []
def pdL : List D → List PyData
  | [] => []
  | d :: ds => d.pd :: pdL ds
end
mutual
/-- plain data: no dict, no instance -/
def D.plain : D → Bool
  | .tup ds => plainL ds
  | .lst ds => plainL ds
  | .dct _ _ => false
  | .ins _ _ _ => false
  | .cls _ => false
  | .ptr _ => false
  | .tpn _ => false
  | .exn _ _ _ => false
  | _ => true
def plainL : List D → Bool
  | [] => true
  | d :: ds => d.plain && plainL ds
end
theorem dp_ints {M : Md} {H : Hp} : ∀ ns : List Int, DpAll M.K H (ns.map V.int) (ns.map PyData.int)
  | [] => .nil
  | n :: ns => .cons (.int n) (dp_ints ns)
section
variable {M : Md} {F H : Hp}
mutual
theorem Rep.dp (s : Same F H) : ∀ {v : V} {d : D}, Rep M F v d → d.plain = true → Dp M.K H v d.pd
  | _, _, .non, _ => .non
  | _, _, .bl b, _ => .bl b
  | _, _, .int i, _ => .int i
  | _, _, .str x, _ => .str x
  | _, _, .tup h r, p => .tup (Same.sqT s h) (RepL.dp s r p)
  | _, _, .lst h r, p => .lst (.inl (.inl (s _ _ h))) (RepL.dp s r p)
  | _, .scr ns, .scr h, _ => .lst (s.seq h) (dp_ints ns)
  | _, _, .dK h e r, p => nomatch p
  | _, _, .ins g h e r, p => nomatch p
  | _, _, .cls g, p => nomatch p
  | _, _, .ptr, p => nomatch p
  | _, _, .tpn _ _ _, p => nomatch p
  | _, _, .exn _ _ _ _ _, p => nomatch p
  | _, _, .ex0 _ _, p => nomatch p
theorem RepL.dp (s : Same F H) : ∀ {vs : List V} {ds : List D}, RepL M F vs ds → plainL ds = true → DpAll M.K H vs (pdL ds)
  | _, _, .nil, _ => .nil
  | _, _, .cons h r, p => .cons (Rep.dp s h (Bool.and_eq_true_iff.mp p).1) (RepL.dp s r (Bool.and_eq_true_iff.mp p).2)
end
theorem Vw.dp (s : Same F H) {v : V} {d : D} (h : Vw M F H v d) (p : d.plain = true) : Dp M.K H v d.pd := by
  cases d with
  | non => cases h; exact .non
  | bl b => cases h; exact .bl b
  | int i => cases h; exact .int i
  | str x => cases h; exact .str x
  | tup ds => obtain ⟨a, xs, rfl, h1, h2⟩ := h; exact .tup (Same.sqT (Same.refl _) h1 |> fun z => Same.sqT s z) (RepL.dp s h2 p)
  | lst ds => obtain ⟨a, xs, rfl, h1, h2⟩ := h; exact .lst (.inl (.inl h1)) (RepL.dp s h2 p)
  | scr ns => obtain ⟨a, rfl, h1⟩ := h; exact .lst h1 (dp_ints ns)
  | dct _ _ => cases p
  | ins _ _ _ => cases p
  | cls _ => cases p
  | ptr _ => cases p
  | tpn _ => cases p
  | exn _ _ _ => cases p
end
/-- what == asks of its sides -/
def D.okE (d : D) : Bool := d.plain && SeqAt.shaped d.pd
def eqvD (a b : D) : Bool := PyData.eqv a.pd b.pd
def gEq : G2 := fun a b Q => a.okE = true ∧ b.okE = true ∧ Q (.fz (.bl (eqvD a b)))
def gNe : G2 := fun a b Q => a.okE = true ∧ b.okE = true ∧ Q (.fz (.bl (!eqvD a b)))
theorem D.okE_plain {d : D} (h : d.okE = true) : d.plain = true := (Bool.and_eq_true_iff.mp h).1
theorem D.okE_shaped {d : D} (h : d.okE = true) : SeqAt.shaped d.pd = true := (Bool.and_eq_true_iff.mp h).2
section
variable {X : Cx}
theorem VR2.of {f : Value → Value → Sem Value} {g : G2} {r : R2} (ho : OpR X f r) (m : Mono2 g)
    (h : ∀ F da db x y H Qv, Same F H → Vw (mdX X) F H x da → Vw (mdX X) F H y db → g da db (NPost (mdX X) F H Qv) → r x y H Qv) : VR2 X f g :=
  ⟨fun pins s σ H x y v u Q I rx ry ⟨F, da, db, sm, vx, vy, q⟩ => ho pins s σ H x y v u Q I rx ry (h F da db x y H Q sm vx vy q), m⟩
theorem vr_eq (hu : X.A.units + 64 < cLine) : VR2 X (compareOp .Eq) gEq :=
  .of (op_eqD hu) ⟨fun h ⟨a, b, q⟩ => ⟨a, b, h _ q⟩⟩ fun F da db x y H Qv sm vx vy ⟨h1, h2, q⟩ => ⟨_, _, Vw.dp sm vx (D.okE_plain h1), Vw.dp sm vy (D.okE_plain h2), D.okE_shaped h1, D.okE_shaped h2, q.here sm (.bl _)⟩
theorem vr_ne (hu : X.A.units + 64 < cLine) : VR2 X (compareOp .NotEq) gNe :=
  .of (op_neD hu) ⟨fun h ⟨a, b, q⟩ => ⟨a, b, h _ q⟩⟩ fun F da db x y H Qv sm vx vy ⟨h1, h2, q⟩ => ⟨_, _, Vw.dp sm vx (D.okE_plain h1), Vw.dp sm vy (D.okE_plain h2), D.okE_shaped h1, D.okE_shaped h2, q.here sm (.bl _)⟩
def inD (x : D) : D → Option Bool
  | .tup ds => some ((pdL ds).any fun z => PyData.eqv z x.pd)
  | .lst ds => some ((pdL ds).any fun z => PyData.eqv z x.pd)
  | .scr ns => some ((ns.map PyData.int).any fun z => PyData.eqv z x.pd)
  | _ => none
def gIn : G2 := fun a b Q => a.okE = true ∧ b.okE = true ∧ ∃ k, inD a b = some k ∧ Q (.fz (.bl k))
def gNotIn : G2 := fun a b Q => a.okE = true ∧ b.okE = true ∧ ∃ k, inD a b = some k ∧ Q (.fz (.bl (!k)))
def rInA (K : PySem.W.Frag) (neg : Bool) : R2 := fun x y H Q => ∃ d e ds, Dp K H x d ∧ Dp K H y e ∧ (e = .list ds ∨ e = .tuple ds) ∧ SeqAt.shaped d = true ∧ SeqAt.shaped e = true ∧ Q (.bl (if neg then !(ds.any fun z => PyData.eqv z d) else ds.any fun z => PyData.eqv z d)) H
theorem op_notInA (hu : X.A.units + 65 < cLine) : OpR X (compareOp .NotIn) (rInA X.K true) := by
  intro pins s σ H x y v u Q I rx ry h
  obtain ⟨d, e, ds, hd, he, hk, sd, se, q⟩ := h
  obtain ⟨as, r1⟩ := Dp.reads I d x v hd rx
  rcases hk with rfl | rfl
  · obtain ⟨bs, r2⟩ := Dp.reads I (.list ds) y u he ry
    exact SeqAt.notIn_list_reads r2 r1 (SeqAt.canLay_of_shaped se) (SeqAt.canLay_of_shaped sd) (PyProof.Rows.room_in_shaped sd hu) ⟨.bl _, H, I, rfl, q⟩
  · obtain ⟨bs, r2⟩ := Dp.reads I (.tuple ds) y u he ry
    exact SeqAt.notIn_tuple_reads r2 r1 (SeqAt.canLay_of_shaped se) (SeqAt.canLay_of_shaped sd) (PyProof.Rows.room_in_shaped sd hu) ⟨.bl _, H, I, rfl, q⟩
theorem inD_pd {x e : D} {k : Bool} (h : inD x e = some k) : ∃ ds, (e.pd = .list ds ∨ e.pd = .tuple ds) ∧ k = ds.any fun z => PyData.eqv z x.pd := by
  cases e with
  | tup ds => cases h; exact ⟨_, .inr rfl, rfl⟩
  | lst ds => cases h; exact ⟨_, .inl rfl, rfl⟩
  | scr ns => cases h; exact ⟨_, .inl rfl, rfl⟩
  | _ => cases h
theorem vr_notIn (hu : X.A.units + 65 < cLine) : VR2 X (compareOp .NotIn) gNotIn :=
  .of (op_notInA hu) ⟨fun h ⟨a, b, k, e, q⟩ => ⟨a, b, k, e, h _ q⟩⟩ fun F da db x y H Qv sm vx vy ⟨h1, h2, k, e, q⟩ => by
    obtain ⟨ds, e1, e2⟩ := inD_pd e
    exact ⟨_, _, ds, Vw.dp sm vx (D.okE_plain h1), Vw.dp sm vy (D.okE_plain h2), e1, D.okE_shaped h1, D.okE_shaped h2, by rw [if_pos rfl, ← e2]; exact q.here sm (.bl _)⟩
def isN : D → Bool
  | .non => true
  | _ => false
def gIsN : G2 := fun a b Q => b = .non ∧ Q (.fz (.bl (isN a)))
def gIsNotN : G2 := fun a b Q => b = .non ∧ Q (.fz (.bl (!isN a)))
theorem isN_vw {M : Md} {F H : Hp} {v : V} {d : D} (h : Vw M F H v d) : decide (v = .non) = isN d := by
  cases d with
  | non => cases h; rfl
  | bl b => cases h; rfl
  | int b => cases h; rfl
  | str b => cases h; rfl
  | tup ds => obtain ⟨a, xs, rfl, _⟩ := h; rfl
  | lst ds => obtain ⟨a, xs, rfl, _⟩ := h; rfl
  | scr ds => obtain ⟨a, rfl, _⟩ := h; rfl
  | dct ks ds => obtain ⟨a, rfl, _⟩ := h; rfl
  | ins C ks ds => obtain ⟨a, rfl, _⟩ := h; rfl
  | cls C => obtain ⟨a, rfl, _⟩ := h; rfl
  | ptr a => cases (show v = .ref a from h); rfl
  | tpn C => obtain ⟨a, o, xs, rfl, _⟩ := h; rfl
  | exn C ks ds => obtain ⟨a, c, rfl, _⟩ := h; rfl
theorem vr_isN : VR2 X (compareOp .Is) gIsN :=
  .of op_isN ⟨fun h ⟨a, q⟩ => ⟨a, h _ q⟩⟩ fun F da db x y H Qv sm vx vy ⟨h1, q⟩ => by
    subst h1; exact ⟨vy, by rw [isN_vw vx]; exact q.here sm (.bl _)⟩
theorem vr_isNotN : VR2 X (compareOp .IsNot) gIsNotN :=
  .of op_notN ⟨fun h ⟨a, q⟩ => ⟨a, h _ q⟩⟩ fun F da db x y H Qv sm vx vy ⟨h1, q⟩ => by
    subst h1; exact ⟨vy, by rw [isN_vw vx]; exact q.here sm (.bl _)⟩
end
end LV
namespace LV
open PySem PySem.Spec L2
def ltI : List Int → List Int → Bool
  | [], [] => false
  | [], _ :: _ => true
  | _ :: _, [] => false
  | x :: xs, y :: ys => if x = y then ltI xs ys else decide (x < y)
def leI : List Int → List Int → Bool
  | [], _ => true
  | _ :: _, [] => false
  | x :: xs, y :: ys => if x = y then leI xs ys else decide (x ≤ y)
theorem lexAt_shift {e r e' r' : Nat → Bool} {z : Bool} : ∀ (k i : Nat), (∀ j, e (i + 1 + j) = e' (i + j)) → (∀ j, r (i + 1 + j) = r' (i + j)) → Ob.lexAt e r z (i + 1) k = Ob.lexAt e' r' z i k
  | 0, i, _, _ => rfl
  | k + 1, i, h1, h2 => by
    rw [Ob.lexAt_succ, Ob.lexAt_succ]
    have a1 := h1 0
    have a2 := h2 0
    simp only [Nat.add_zero] at a1 a2
    rw [a1, a2, lexAt_shift k (i + 1) (fun j => by have := h1 (j + 1); rwa [show i + 1 + (j + 1) = i + 1 + 1 + j by omega, show i + (j + 1) = i + 1 + j by omega] at this)
      (fun j => by have := h2 (j + 1); rwa [show i + 1 + (j + 1) = i + 1 + 1 + j by omega, show i + (j + 1) = i + 1 + j by omega] at this)]
theorem lexAt_lt : ∀ ns ms : List Int, Ob.lexAt (fun j => decide (ns.getD j 0 = ms.getD j 0)) (fun j => decide (ns.getD j 0 < ms.getD j 0)) (decide (ns.length < ms.length)) 0 (min ns.length ms.length) = ltI ns ms
  | [], [] => rfl
  | [], _ :: _ => by simp [Ob.lexAt, ltI]
  | _ :: _, [] => by simp [Ob.lexAt, ltI]
  | n :: ns, m :: ms => by
    rw [List.length_cons, List.length_cons, show min (ns.length + 1) (ms.length + 1) = min ns.length ms.length + 1 by omega, Ob.lexAt_succ, show ltI (n :: ns) (m :: ms) = if n = m then ltI ns ms else decide (n < m) from rfl]
    simp only [List.getD_cons_zero]
    by_cases h : n = m
    · rw [if_pos h, if_pos (decide_eq_true h), show decide (ns.length + 1 < ms.length + 1) = decide (ns.length < ms.length) from by simp, ← lexAt_lt ns ms]
      exact lexAt_shift _ 0 (fun j => by rw [show 0 + 1 + j = (0 + j) + 1 by omega]; simp) (fun j => by rw [show 0 + 1 + j = (0 + j) + 1 by omega]; simp)
    · rw [if_neg h, if_neg (by simpa using h)]
theorem lexAt_le : ∀ ns ms : List Int, Ob.lexAt (fun j => decide (ns.getD j 0 = ms.getD j 0)) (fun j => decide (ns.getD j 0 ≤ ms.getD j 0)) (decide (ns.length ≤ ms.length)) 0 (min ns.length ms.length) = leI ns ms
  | [], [] => rfl
  | [], _ :: _ => by simp [Ob.lexAt, leI]
  | _ :: _, [] => by simp [Ob.lexAt, leI]
  | n :: ns, m :: ms => by
    rw [List.length_cons, List.length_cons, show min (ns.length + 1) (ms.length + 1) = min ns.length ms.length + 1 by omega, Ob.lexAt_succ, show leI (n :: ns) (m :: ms) = if n = m then leI ns ms else decide (n ≤ m) from rfl]
    simp only [List.getD_cons_zero]
    by_cases h : n = m
    · rw [if_pos h, if_pos (decide_eq_true h), show decide (ns.length + 1 ≤ ms.length + 1) = decide (ns.length ≤ ms.length) from by simp, ← lexAt_le ns ms]
      exact lexAt_shift _ 0 (fun j => by rw [show 0 + 1 + j = (0 + j) + 1 by omega]; simp) (fun j => by rw [show 0 + 1 + j = (0 + j) + 1 by omega]; simp)
    · rw [if_neg h, if_neg (by simpa using h)]
section
variable {X : Cx}
/-- one order operator on tuples of ints -/
def rOrd (K : PySem.W.Frag) (f : List Int → List Int → Bool) : R2 := fun x y H Q => ∃ (a b : Addr) (ns ms : List Int), x = .ref a ∧ y = .ref b ∧ SqT K H a (ns.map V.int) ∧ SqT K H b (ms.map V.int) ∧ Q (.bl (f ns ms)) H
theorem op_ordT {op : CmpOp} {r : Int → Int → Bool} {z : Nat → Nat → Bool} {f : List Int → List Int → Bool}
    (rule : ∀ {s : Shared} {l b : Addr} {items items2 : Array Value} {e r : Nat → Bool}, s.heap.IsTuple l items → s.heap.IsTuple b items2 → X.A.units < cLine →
      (∀ j (h1 : j < items.size) (h2 : j < items2.size), SeqAt.EqAt X.A.in1 s items[j] items2[j] (e j)) → (∀ j (h1 : j < items.size) (h2 : j < items2.size), e j = false → Ob.RcOp op X.A.in1 s items[j] items2[j] (r j)) →
      Ob.RcOp op X.A s (.ref l) (.ref b) (Ob.lexAt e r (z items.size items2.size) 0 (min items.size items2.size)))
    (base : ∀ (A : Around) (s : Shared) (a b : Int) (t u : Tok), Ob.RcOp op A s (.int a t) (.int b u) (r a b))
    (hf : ∀ ns ms : List Int, Ob.lexAt (fun j => decide (ns.getD j 0 = ms.getD j 0)) (fun j => r (ns.getD j 0) (ms.getD j 0)) (z ns.length ms.length) 0 (min ns.length ms.length) = f ns ms)
    (hr : ∀ (a b : Value) (s : Shared) (Q E : Value → Shared → Prop), wpAny (model X.prog X.w) X.A (richCompare op a b) Q E s → wpAny (model X.prog X.w) X.A (compareOp op a b) Q E s)
    (hu : X.A.units < cLine) : OpR X (compareOp op) (rOrd X.K f) := by
  intro pins s σ H x y v u Q I rx ry h
  obtain ⟨a, b, ns, ms, rfl, rfl, ha, hb, q⟩ := h
  cases rx
  cases ry
  obtain ⟨its, r1, p1, _⟩ := I.tuple ha
  obtain ⟨its2, r2, p2, _⟩ := I.tuple hb
  have i1 : PyProof.Rows.IntsAre its ns := Vals.ints r1
  have i2 : PyProof.Rows.IntsAre its2 ms := Vals.ints r2
  have e1 : its.toArray.size = ns.length := by rw [List.size_toArray]; exact i1.length
  have e2 : its2.toArray.size = ms.length := by rw [List.size_toArray]; exact i2.length
  have at1 : ∀ j (h1 : j < its.toArray.size), ∃ t, its.toArray[j] = .int (ns.getD j 0) t := fun j h1 => PyProof.Rows.IntsAre.int_at i1 _ _ (by simp at h1; simp [h1])
  have at2 : ∀ j (h1 : j < its2.toArray.size), ∃ t, its2.toArray[j] = .int (ms.getD j 0) t := fun j h1 => PyProof.Rows.IntsAre.int_at i2 _ _ (by simp at h1; simp [h1])
  have R := rule (s := s) (e := fun j => decide (ns.getD j 0 = ms.getD j 0)) (r := fun j => r (ns.getD j 0) (ms.getD j 0)) p1 p2 hu (fun j h1 h2 => by
    obtain ⟨t, et⟩ := at1 j h1
    obtain ⟨t', et'⟩ := at2 j h2
    rw [et, et']
    have z : (ns.getD j 0 == ms.getD j 0) = decide (ns.getD j 0 = ms.getD j 0) := by
      by_cases q : ns.getD j 0 = ms.getD j 0
      · rw [decide_eq_true q]; exact beq_iff_eq.mpr q
      · rw [decide_eq_false q]; exact beq_eq_false_iff_ne.mpr q
    rw [← z]
    exact SeqAt.EqAt.int_int _ _ _ _) (fun j h1 h2 _ => by
    obtain ⟨t, et⟩ := at1 j h1
    obtain ⟨t', et'⟩ := at2 j h2
    rw [et, et']
    exact base _ _ _ _ _ _)
  rw [e1, e2, hf] at R
  exact hr _ _ _ _ _ (R X.prog X.w X.xe (EP X pins σ Q) ⟨.bl _, H, I, rfl, q⟩)
theorem op_ltT' (hu : X.A.units < cLine) : OpR X (compareOp .Lt) (rOrd X.K ltI) :=
  op_ordT (z := fun a b => decide (a < b)) (fun h1 h2 h3 h4 h5 => Ob.RcOp.tuples_lt h1 h2 h3 h4 h5) (fun _ _ => Ob.RcOp.lt_int) lexAt_lt (fun _ _ _ _ _ h => h) hu
theorem op_leT' (hu : X.A.units < cLine) : OpR X (compareOp .LtE) (rOrd X.K leI) :=
  op_ordT (z := fun a b => decide (a ≤ b)) (fun h1 h2 h3 h4 h5 => Ob.RcOp.tuples_le h1 h2 h3 h4 h5) (fun _ _ => Ob.RcOp.le_int) lexAt_le (fun _ _ _ _ _ h => h) hu
theorem lexAt_gt (ns ms : List Int) : Ob.lexAt (fun j => decide (ns.getD j 0 = ms.getD j 0)) (fun j => decide (ms.getD j 0 < ns.getD j 0)) (decide (ns.length > ms.length)) 0 (min ns.length ms.length) = ltI ms ns := by
  rw [← lexAt_lt ms ns, Nat.min_comm]
  congr 1
  funext j
  exact decide_eq_decide.mpr eq_comm
theorem lexAt_ge (ns ms : List Int) : Ob.lexAt (fun j => decide (ns.getD j 0 = ms.getD j 0)) (fun j => decide (ms.getD j 0 ≤ ns.getD j 0)) (decide (ns.length ≥ ms.length)) 0 (min ns.length ms.length) = leI ms ns := by
  rw [← lexAt_le ms ns, Nat.min_comm]
  congr 1
  funext j
  exact decide_eq_decide.mpr eq_comm
theorem op_gtT' (hu : X.A.units < cLine) : OpR X (compareOp .Gt) (rOrd X.K fun a b => ltI b a) :=
  op_ordT (z := fun a b => decide (a > b)) (fun h1 h2 h3 h4 h5 => Ob.RcOp.tuples_gt h1 h2 h3 h4 h5) (fun _ _ => Ob.RcOp.gt_int) lexAt_gt (fun _ _ _ _ _ h => h) hu
theorem op_geT' (hu : X.A.units < cLine) : OpR X (compareOp .GtE) (rOrd X.K fun a b => leI b a) :=
  op_ordT (z := fun a b => decide (a ≥ b)) (fun h1 h2 h3 h4 h5 => Ob.RcOp.tuples_ge h1 h2 h3 h4 h5) (fun _ _ => Ob.RcOp.ge_int) lexAt_ge (fun _ _ _ _ _ h => h) hu
/-- an order operator: ints by p, tuples of ints by f -/
def gOrd (p : Int → Int → Bool) (f : List Int → List Int → Bool) : G2 := fun a b Q =>
  (∃ i j, a = .int i ∧ b = .int j ∧ Q (.fz (.bl (p i j)))) ∨ (∃ ns ms, a = .tup (ns.map D.int) ∧ b = .tup (ms.map D.int) ∧ Q (.fz (.bl (f ns ms))))
theorem Vw.tupI {M : Md} {F H : Hp} {v : V} {ns : List Int} (sm : Same F H) (h : Vw M F H v (.tup (ns.map D.int))) : ∃ a, v = .ref a ∧ SqT M.K H a (ns.map V.int) := by
  obtain ⟨a, xs, rfl, h1, h2⟩ := h
  rw [RepL.ints h2] at h1
  exact ⟨a, rfl, Same.sqT sm h1⟩
theorem Mono2.ord {p : Int → Int → Bool} {f : List Int → List Int → Bool} : Mono2 (gOrd p f) :=
  ⟨fun h q => q.elim (fun ⟨i, j, a, b, q⟩ => .inl ⟨i, j, a, b, h _ q⟩) (fun ⟨i, j, a, b, q⟩ => .inr ⟨i, j, a, b, h _ q⟩)⟩
theorem orR {f : Value → Value → Sem Value} {r r' : R2} (h : OpR X f r) (h' : OpR X f r') : OpR X f (fun x y H Q => r x y H Q ∨ r' x y H Q) := by
  intro pins s σ H x y v u Q I rx ry q
  rcases q with q | q
  · exact h pins s σ H x y v u Q I rx ry q
  · exact h' pins s σ H x y v u Q I rx ry q
theorem vr_ord {op : CmpOp} {p : Int → Int → Bool} {f : List Int → List Int → Bool} (h1 : OpR X (compareOp op) (rI0 fun i j => .bl (p i j))) (h2 : OpR X (compareOp op) (rOrd X.K f)) : VR2 X (compareOp op) (gOrd p f) :=
  .of (orR h1 h2) .ord fun F da db x y H Qv sm vx vy q => by
    rcases q with ⟨i, j, rfl, rfl, q⟩ | ⟨ns, ms, rfl, rfl, q⟩
    · exact .inl ⟨i, j, vx, vy, q.here sm (.bl _)⟩
    · obtain ⟨a, rfl, ha⟩ := Vw.tupI sm vx
      obtain ⟨b, rfl, hb⟩ := Vw.tupI sm vy
      exact .inr ⟨a, b, ns, ms, rfl, rfl, ha, hb, q.here sm (.bl _)⟩
def gLt : G2 := gOrd (fun i j => decide (i < j)) ltI
def gLe : G2 := gOrd (fun i j => decide (i ≤ j)) leI
def gGt : G2 := gOrd (fun i j => decide (j < i)) (fun a b => ltI b a)
def gGe : G2 := gOrd (fun i j => decide (j ≤ i)) (fun a b => leI b a)
theorem vr_lt (hu : X.A.units < cLine) : VR2 X (compareOp .Lt) gLt := vr_ord op_lt (op_ltT' hu)
theorem vr_le (hu : X.A.units < cLine) : VR2 X (compareOp .LtE) gLe := vr_ord op_le (op_leT' hu)
theorem vr_gt (hu : X.A.units < cLine) : VR2 X (compareOp .Gt) gGt := vr_ord op_gt (op_gtT' hu)
theorem vr_ge (hu : X.A.units < cLine) : VR2 X (compareOp .GtE) gGe := vr_ord op_ge (op_geT' hu)
def gAdd : G2 := fun a b Q => match a, b with
  | .int i, .int j => Q (.fz (.int (i + j)))
  | .str x, .str y => x.length + y.length ≤ sizeLine ∧ Q (.fz (.str (x ++ y)))
  | .tup xs, .tup ys => xs.length + ys.length ≤ sizeLine ∧ Q (.fz (.tup (xs ++ ys)))
  | .lst xs, .lst ys => xs.length + ys.length ≤ sizeLine ∧ Q (.ow (.lst (xs ++ ys)))
  | _, _ => False
theorem Mono2.add : Mono2 gAdd := ⟨fun {a b Q Q'} h q => by
  unfold gAdd at q ⊢
  split at q <;> first | exact h _ q | exact ⟨q.1, h _ q.2⟩ | exact q⟩
theorem vr_add : VR2 X (binaryOp .Add) gAdd :=
  .of (orR (orR op_add op_add_str) (orR op_catA op_cat)) .add fun F da db x y H Qv sm vx vy q => by
    unfold gAdd at q
    split at q
    · cases vx; cases vy; exact .inl (.inl ⟨_, _, rfl, rfl, q.here sm (.int _)⟩)
    · cases vx; cases vy; exact .inl (.inr ⟨_, _, rfl, rfl, q.1, q.2.here sm (.str _)⟩)
    · obtain ⟨a, xs, rfl, h1, h2⟩ := vx
      obtain ⟨b, ys, rfl, h3, h4⟩ := vy
      refine .inr (.inl ⟨a, b, xs, ys, rfl, rfl, Same.sqT sm h1, Same.sqT sm h3, by rw [h2.length, h4.length]; exact q.1, fun e => ?_, fun _ e => ?_, fun _ _ p hp => q.2.newT sm (h2.append h4) hp⟩)
      · subst e; cases h2; exact q.2.here sm (.tup h3 h4)
      · subst e; cases h4; rw [List.append_nil] at q; exact q.2.here sm (.tup h1 h2)
    · obtain ⟨a, xs, rfl, h1, h2⟩ := vx
      obtain ⟨b, ys, rfl, h3, h4⟩ := vy
      exact .inr (.inr ⟨a, b, xs, ys, rfl, rfl, h1, h3, by rw [h2.length, h4.length]; exact q.1, fun p hp => q.2.newL sm (h2.append h4) hp⟩)
    · exact q.elim
def gInt (C : Int → Int → Prop) (g : Int → Int → Int) : G2 := fun a b Q => ∃ i j, a = .int i ∧ b = .int j ∧ C i j ∧ Q (.fz (.int (g i j)))
theorem Mono2.int {C : Int → Int → Prop} {g : Int → Int → Int} : Mono2 (gInt C g) := ⟨fun h ⟨i, j, a, b, c, q⟩ => ⟨i, j, a, b, c, h _ q⟩⟩
theorem vr_int {f : Value → Value → Sem Value} {C : Int → Int → Prop} {g : Int → Int → Int} (h : OpR X f (rI C fun i j => .int (g i j))) : VR2 X f (gInt C g) :=
  .of h .int fun F da db x y H Qv sm vx vy ⟨i, j, e1, e2, hc, q⟩ => by subst e1 e2; exact ⟨i, j, vx, vy, hc, q.here sm (.int _)⟩
def gSub : G2 := gInt (fun _ _ => True) (· - ·)
def gMod : G2 := gInt (fun _ j => j ≠ 0) Int.fmod
def gPow : G2 := gInt CPow fun i j => i ^ j.toNat
def CDvA (i j : Int) : Prop := j ≠ 0 ∧ Builtin.divisionGoesByPylong i j = false
def gDiv : G2 := gInt CDvA Int.fdiv
theorem vr_sub : VR2 X (binaryOp .Sub) gSub := vr_int (opI fun _ _ _ _ _ _ _ _ q => PyProof.Rows.sub_int q)
theorem vr_mod : VR2 X (binaryOp .Mod) gMod := vr_int op_modN
theorem vr_pow : VR2 X (binaryOp .Pow) gPow := vr_int op_pow
theorem vr_div : VR2 X (binaryOp .FloorDiv) gDiv := vr_int (opI fun _ _ _ _ _ _ _ hc q => PyProof.Rows.floordiv_int hc.1 q (.inl hc.2))
def gMul : G2 := fun a b Q => match a, b with
  | .int i, .int j => CMulX i j ∧ Q (.fz (.int (i * j)))
  | .tup xs, .int k => xs ≠ [] ∧ 2 ≤ k ∧ k ≤ 1000 ∧ xs.length ≤ 1000 ∧ Q (.fz (.tup (List.replicate k.toNat xs).flatten))
  | .lst xs, .int k => -(2 ^ 63) ≤ k ∧ k < 2 ^ 63 ∧ xs.length * k.toNat ≤ sizeLine ∧ Q (.ow (.lst (List.replicate k.toNat xs).flatten))
  | _, _ => False
theorem Mono2.mul : Mono2 gMul := ⟨fun {a b Q Q'} h q => by
  unfold gMul at q ⊢
  split at q
  · exact ⟨q.1, h _ q.2⟩
  · exact ⟨q.1, q.2.1, q.2.2.1, q.2.2.2.1, h _ q.2.2.2.2⟩
  · exact ⟨q.1, q.2.1, q.2.2.1, h _ q.2.2.2⟩
  · exact q⟩
theorem RepL.repl {M : Md} {F : Hp} {xs : List V} {ds : List D} (r : RepL M F xs ds) : ∀ n : Nat, RepL M F (List.replicate n xs).flatten (List.replicate n ds).flatten
  | 0 => .nil
  | n + 1 => by
    rw [List.replicate_succ, List.replicate_succ, List.flatten_cons, List.flatten_cons]
    exact r.append (RepL.repl r n)
theorem vr_mul : VR2 X (binaryOp .Mult) gMul :=
  .of (orR op_mulX (orR op_repT op_rep)) .mul fun F da db x y H Qv sm vx vy q => by
    unfold gMul at q
    split at q
    · cases vx; cases vy; exact .inl ⟨_, _, rfl, rfl, q.1, q.2.here sm (.int _)⟩
    · obtain ⟨a, xs, rfl, h1, h2⟩ := vx
      cases vy
      obtain ⟨n1, n2, n3, n4, q⟩ := q
      exact .inr (.inl ⟨a, _, xs, rfl, rfl, Same.sqT sm h1, fun z => n1 (by subst z; cases h2; rfl), n2, n3, by rw [h2.length]; exact n4, fun p hp => q.newT sm (h2.repl _) hp⟩)
    · obtain ⟨a, xs, rfl, h1, h2⟩ := vx
      cases vy
      obtain ⟨n1, n2, n3, q⟩ := q
      exact .inr (.inr ⟨a, _, xs, rfl, rfl, h1, n1, n2, by rw [h2.length]; exact n3, fun p hp => q.newL sm (h2.repl _) hp⟩)
    · exact q.elim
theorem RepL.atI {M : Md} {F : Hp} {xs : List V} {ds : List D} (r : RepL M F xs ds) {i : Int} {d : D} (h : atI ds i = some d) : ∃ v, L2.atI xs i = some v ∧ Rep M F v d := by
  unfold L2.atI at h ⊢
  rw [r.length]
  cases e : ixN ds.length i with
  | none => rw [e] at h; cases h
  | some j => rw [e] at h; exact r.get' h
def gIx : G2 := fun a b Q => match a, b with
  | .tup ds, .int i => ∃ d, atI ds i = some d ∧ Q (.fz d)
  | .lst ds, .int i => ∃ d, atI ds i = some d ∧ Q (.fz d)
  | .scr ns, .int i => ∃ n, atI ns i = some n ∧ Q (.fz (.int n))
  | .str z, .int i => z.length ≤ sizeLine ∧ ∃ c, atI z.cps.toList i = some c ∧ Q (.fz (.str ⟨#[c]⟩))
  | _, _ => False
theorem Mono2.ix : Mono2 gIx := ⟨fun {a b Q Q'} h q => by
  unfold gIx at q ⊢
  split at q
  · obtain ⟨d, e, q⟩ := q; exact ⟨d, e, h _ q⟩
  · obtain ⟨d, e, q⟩ := q; exact ⟨d, e, h _ q⟩
  · obtain ⟨d, e, q⟩ := q; exact ⟨d, e, h _ q⟩
  · obtain ⟨l, d, e, q⟩ := q; exact ⟨l, d, e, h _ q⟩
  · exact q⟩
theorem atI_map {ns : List Int} {i n : Int} (h : atI ns i = some n) : atI (ns.map V.int) i = some (.int n) := by
  unfold L2.atI at h ⊢
  rw [List.length_map]
  cases e : ixN ns.length i with
  | none => rw [e] at h; cases h
  | some j => rw [e] at h; show (ns.map V.int)[j]? = _; rw [List.getElem?_map]; rw [show ns[j]? = some n from h]; rfl
theorem vi_ix : VIx X gIx where
  ok := by
    intro value slice pins s σ H x y v u Q I rx ry q hs
    refine ix_seq value slice pins s σ H x y v u Q I rx ry ?_ hs
    obtain ⟨F, da, db, sm, vx, vy, q⟩ := q
    unfold gIx at q
    split at q
    · obtain ⟨a, xs, rfl, h1, h2⟩ := vx
      cases vy
      obtain ⟨d, e, q⟩ := q
      obtain ⟨w, e1, rw'⟩ := h2.atI e
      exact .inr (.inl ⟨a, xs, _, w, rfl, rfl, Same.sqT sm h1, e1, q.here sm rw'⟩)
    · obtain ⟨a, xs, rfl, h1, h2⟩ := vx
      cases vy
      obtain ⟨d, e, q⟩ := q
      obtain ⟨w, e1, rw'⟩ := h2.atI e
      exact .inl ⟨a, xs, _, w, rfl, rfl, .inl (.inl h1), e1, q.here sm rw'⟩
    · obtain ⟨a, rfl, h1⟩ := vx
      cases vy
      obtain ⟨d, e, q⟩ := q
      exact .inl ⟨a, _, _, _, rfl, rfl, h1, atI_map e, q.here sm (.int _)⟩
    · cases vx; cases vy
      obtain ⟨l, ch, e, q⟩ := q
      exact .inr (.inr ⟨_, _, _, rfl, rfl, l, e, q.here sm (.str _)⟩)
    · exact q.elim
  mo := .ix
theorem VRL.of {f : Value} {g : GL} {r : List V → Hp → VK → Prop} (ho : CallR X f r) (m : MonoL g)
    (h : ∀ F ds vs H Qv, Same F H → VwL (mdX X) F H vs ds → g ds (NPost (mdX X) F H Qv) → r vs H Qv) : VRL X f g :=
  ⟨fun pins s σ H xs us Q I r ⟨F, ds, sm, vl, q⟩ => ho pins s σ H xs us Q I r (h F ds xs H Q sm vl q), m⟩
theorem VwL.one {M : Md} {F H : Hp} {vs : List V} {d : D} (h : VwL M F H vs [d]) : ∃ v, vs = [v] ∧ Vw M F H v d := by
  match vs, h with
  | [v], ⟨h, _⟩ => exact ⟨v, rfl, h⟩
  | _ :: _ :: _, ⟨_, h⟩ => exact h.elim
theorem VwL.two {M : Md} {F H : Hp} {vs : List V} {d d' : D} (h : VwL M F H vs [d, d']) : ∃ v v', vs = [v, v'] ∧ Vw M F H v d ∧ Vw M F H v' d' := by
  match vs, h with
  | [_], ⟨_, h⟩ => exact h.elim
  | [v, v'], ⟨h, h', _⟩ => exact ⟨v, v', rfl, h, h'⟩
  | _ :: _ :: _ :: _, ⟨_, _, h⟩ => exact h.elim
def gLen : GL := fun ds Q => match ds with
  | [.tup ds] => Q (.fz (.int ds.length))
  | [.lst ds] => Q (.fz (.int ds.length))
  | [.scr ns] => Q (.fz (.int ns.length))
  | [.str z] => z.length ≤ sizeLine ∧ Q (.fz (.int z.length))
  | _ => False
theorem vl_len : VRL X (.builtin "len") gLen :=
  .of call_len ⟨fun {ds Q Q'} h q => by
    unfold gLen at q ⊢
    split at q <;> first | exact h _ q | exact ⟨q.1, h _ q.2⟩ | exact q⟩ fun F ds vs H Qv sm vl q => by
    unfold gLen at q
    split at q
    · obtain ⟨v, rfl, a, xs, rfl, h1, h2⟩ := vl.one
      exact ⟨_, _, rfl, .inr ⟨xs, Same.sqT sm h1, h2.length.symm⟩, q.here sm (.int _)⟩
    · obtain ⟨v, rfl, a, xs, rfl, h1, h2⟩ := vl.one
      exact ⟨_, _, rfl, .inl ⟨xs, .inl (.inl h1), h2.length.symm⟩, q.here sm (.int _)⟩
    · obtain ⟨v, rfl, a, rfl, h1⟩ := vl.one
      exact ⟨_, _, rfl, .inl ⟨_, h1, by rw [List.length_map]⟩, q.here sm (.int _)⟩
    · obtain ⟨v, rfl, hv⟩ := vl.one
      cases hv
      exact ⟨_, _, rfl, ⟨q.1, rfl⟩, q.2.here sm (.int _)⟩
    · exact q.elim
def gAbs : GL := fun ds Q => ∃ i, ds = [.int i] ∧ Q (.fz (.int (if i < 0 then -i else i)))
theorem vl_abs : VRL X (.builtin "abs") gAbs :=
  .of call_abs ⟨fun h ⟨i, e, q⟩ => ⟨i, e, h _ q⟩⟩ fun F ds vs H Qv sm vl ⟨i, e, q⟩ => by
    subst e
    obtain ⟨v, rfl, hv⟩ := vl.one
    cases hv
    exact ⟨i, rfl, q.here sm (.int _)⟩
def gMax2 : GL := fun ds Q => ∃ i j, ds = [.int i, .int j] ∧ Q (.fz (.int (if j > i then j else i)))
def gMin2 : GL := fun ds Q => ∃ i j, ds = [.int i, .int j] ∧ Q (.fz (.int (if j < i then j else i)))
theorem vl_max2 (hc : X.calm = true) : VRL X (.builtin "max") gMax2 :=
  .of (call_max2 hc) ⟨fun h ⟨i, j, e, q⟩ => ⟨i, j, e, h _ q⟩⟩ fun F ds vs H Qv sm vl ⟨i, j, e, q⟩ => by
    subst e
    obtain ⟨v, v', rfl, hv, hv'⟩ := vl.two
    cases hv; cases hv'
    exact ⟨i, j, rfl, q.here sm (.int _)⟩
def gInt1 : GL := fun ds Q => (∃ i, ds = [.int i] ∧ Q (.fz (.int i))) ∨ ∃ k : Bool, ds = [.bl k] ∧ Q (.fz (.int (if k then 1 else 0)))
theorem vl_int : VRL X (.type "int") gInt1 :=
  .of call_int1 ⟨fun h q => q.elim (fun ⟨i, e, q⟩ => .inl ⟨i, e, h _ q⟩) (fun ⟨i, e, q⟩ => .inr ⟨i, e, h _ q⟩)⟩ fun F ds vs H Qv sm vl q => by
    rcases q with ⟨i, e, q⟩ | ⟨k, e, q⟩
    · subst e
      obtain ⟨v, rfl, hv⟩ := vl.one
      cases hv
      exact .inl ⟨i, rfl, q.here sm (.int _)⟩
    · subst e
      obtain ⟨v, rfl, hv⟩ := vl.one
      cases hv
      exact .inr ⟨k, rfl, q.here sm (.int _)⟩
def gList : GL := fun ds Q => match ds with
  | [.tup ds] => Q (.ow (.lst ds))
  | [.lst ds] => Q (.ow (.lst ds))
  | [.scr ns] => Q (.ow (.lst (ns.map D.int)))
  | _ => False
theorem vl_list : VRL X (.type "list") gList :=
  .of call_list_of ⟨fun {ds Q Q'} h q => by
    unfold gList at q ⊢
    split at q <;> first | exact h _ q | exact q⟩ fun F ds vs H Qv sm vl q => by
    unfold gList at q
    split at q
    · obtain ⟨v, rfl, a, xs, rfl, h1, h2⟩ := vl.one
      exact ⟨a, xs, rfl, .inr (Same.sqT sm h1), fun l hl => q.newL sm h2 hl⟩
    · obtain ⟨v, rfl, a, xs, rfl, h1, h2⟩ := vl.one
      exact ⟨a, xs, rfl, .inl (.inl (.inl h1)), fun l hl => q.newL sm h2 hl⟩
    · obtain ⟨v, rfl, a, rfl, h1⟩ := vl.one
      exact ⟨a, _, rfl, .inl h1, fun l hl => q.newL sm (RepL.of_ints _) hl⟩
    · exact q.elim
def gTuple : GL := fun ds Q => match ds with
  | [.tup ds] => Q (.fz (.tup ds))
  | [.lst ds] => Q (.fz (.tup ds))
  | [.scr ns] => Q (.fz (.tup (ns.map D.int)))
  | _ => False
theorem vl_tuple : VRL X (.type "tuple") gTuple :=
  .of call_tuple_of ⟨fun {ds Q Q'} h q => by
    unfold gTuple at q ⊢
    split at q <;> first | exact h _ q | exact q⟩ fun F ds vs H Qv sm vl q => by
    unfold gTuple at q
    split at q
    · obtain ⟨v, rfl, a, xs, rfl, h1, h2⟩ := vl.one
      exact ⟨a, xs, rfl, .inr ⟨Same.sqT sm h1, q.here sm (.tup h1 h2)⟩⟩
    · obtain ⟨v, rfl, a, xs, rfl, h1, h2⟩ := vl.one
      exact ⟨a, xs, rfl, .inl ⟨.inl (.inl h1), fun l hl => q.newT sm h2 hl⟩⟩
    · obtain ⟨v, rfl, a, rfl, h1⟩ := vl.one
      exact ⟨a, _, rfl, .inl ⟨h1, fun l hl => q.newT sm (RepL.of_ints _) hl⟩⟩
    · exact q.elim
def gAll : GL := fun ds Q => ∃ bs : List Bool, ds = [.lst (bs.map D.bl)] ∧ Q (.fz (.bl (bs.all id)))
theorem RepL.bls {M : Md} {F : Hp} : ∀ {vs : List V} {bs : List Bool}, RepL M F vs (bs.map D.bl) → vs = bs.map V.bl
  | _, [], .nil => rfl
  | _, n :: ns, .cons h r => by
    cases h
    rw [RepL.bls (bs := ns) r]; rfl
theorem vl_all (hc : X.calm = true) : VRL X (.builtin "all") gAll :=
  .of (cr_all hc) ⟨fun h ⟨i, e, q⟩ => ⟨i, e, h _ q⟩⟩ fun F ds vs H Qv sm vl ⟨bs, e, q⟩ => by
    subst e
    obtain ⟨v, rfl, a, xs, rfl, h1, h2⟩ := vl.one
    rw [RepL.bls h2] at h1
    exact ⟨a, bs, rfl, .inl (.inl h1), q.here sm (.bl _)⟩
def gMaxL : GL := fun ds Q => ∃ (ns : List Int) (m : Int), ds = [.lst (ns.map D.int)] ∧ m ∈ ns ∧ (∀ y ∈ ns, y ≤ m) ∧ Q (.fz (.int m))
theorem vl_maxL (hc : X.calm = true) : VRL X (.builtin "max") gMaxL :=
  .of (cr_max hc) ⟨fun h ⟨i, m, e, a, b, q⟩ => ⟨i, m, e, a, b, h _ q⟩⟩ fun F ds vs H Qv sm vl ⟨bs, m, e, hm, hx, q⟩ => by
    subst e
    obtain ⟨v, rfl, a, xs, rfl, h1, h2⟩ := vl.one
    rw [RepL.ints h2] at h1
    refine ⟨a, bs, rfl, .inl (.inl h1), List.length_pos_of_mem hm, fun m' h h' => ?_⟩
    have : m' = m := Int.le_antisymm (hx _ h) (h' _ hm)
    subst this
    exact q.here sm (.int _)
end
end LV
namespace LV
open PySem PySem.Spec L2
structure RoomG (k : Nat) (A : Around) : Prop where
  rm : Room k A
  gd : A.guards = some []
theorem RoomG.mono {j k : Nat} {A : Around} (r : RoomG k A) (h : j ≤ k) : RoomG j A := ⟨r.rm.mono h, r.gd⟩
theorem RoomG.deeper {k : Nat} {A : Around} (r : RoomG (k + 1) A) (env : Env) : RoomG k (A.deeper env) := ⟨r.rm.deeper env, r.gd⟩
structure FnG (P : Program) (w : World) (K : PySem.W.Frag) (mg : Str → Option Value) (base : Heap) (k : Nat) (f : Addr) (fd : FuncData) (ps : List Str) (sp : Sp) : Prop where
  len : ∀ vs H Q E, sp vs H Q E → vs.length = ps.length
  run : ∀ (A : Around) (outer : List Env) (s : Shared) (H : Hp) (args : Args) (us : List Value) (vs : List V) (Q : VK) (E : XK), RoomG k A → Env0 P w K mg base A outer s H → BindsTo s fd args (ps.zip us) → Vals vs us → sp vs H Q E →
    codeAny (model P w) A (.call (.ref f) args) (CR (L2.CX P w) outer P w H s Q E) s
theorem FnG.mono {P : Program} {w : World} {K : PySem.W.Frag} {mg : Str → Option Value} {base : Heap} {j k : Nat} {f : Addr} {fd : FuncData} {ps : List Str} {sp : Sp} (F : FnG P w K mg base j f fd ps sp) (h : j ≤ k) : FnG P w K mg base k f fd ps sp :=
  ⟨F.len, fun A outer s H args us vs Q E hr => F.run A outer s H args us vs Q E (hr.mono h)⟩
theorem FnG.of {P : Program} {w : World} {K : PySem.W.Frag} {mg : Str → Option Value} {base : Heap} {k : Nat} {f : Addr} {fd : FuncData} {ps : List Str} {sp : Sp} (F : FnOk P w K mg base (L2.CX P w) k f fd ps sp) : FnG P w K mg base k f fd ps sp :=
  ⟨F.len, fun A outer s H args us vs Q E hr => F.run A outer s H args us vs Q E hr.rm⟩
section
variable {X : Cx} {k : Nat} {f : Addr} {fd : FuncData} {ps : List Str} {sp : Sp} {E : L2.St → XK} {x : Str} {p pos : Pos} {e : Expr} {es : List Expr} {t : TA}
theorem run_fnG {pins : List (Addr × Obj)} {σ : L2.St} {H : Hp} {s : Shared} {Q : VK} {us : List Value} {vs : List V} (F : FnG X.prog X.w X.K X.mg X.base k f fd ps sp) (hr : RoomG k X.A) (hb : Binds X.K fd ps []) (hx : PassesAt (L2.CX X.prog X.w) X σ (E σ))
    (I : L2.Inv X pins σ H s) (r : Vals vs us) (h : sp vs H Q (E σ)) : wpAny (model X.prog X.w) X.A (call (.ref f) us) (EP X pins σ Q) X.xe s := by
  have b := hb s us I.kIn (by rw [List.append_nil, ← r.length]; exact F.len _ _ _ _ h)
  rw [List.append_nil] at b
  refine wpAny_call (codeAny_mono (F.run X.A X.stack s H ⟨us, []⟩ us vs Q (E σ) hr I.env0 b r h) fun r s' hq => ?_)
  match r, hq with
  | .error e, hq => exact hx pins H s e s' I hq
  | .ok (.ret u), hq => exact I.after hq
  | .ok .next, hq => exact hq.elim
  | .ok .brk, hq => exact hq.elim
  | .ok .cont, hq => exact hq.elim
theorem pe_callG (F : FnG X.prog X.w X.K X.mg X.base k f fd ps sp) (hr : RoomG k X.A) (hg : Gl X x) (hm : X.mg x = some (.ref f)) (hk : PySem.W.keepIn X.K (.ref f) = true) (hb : Binds X.K fd ps []) (hx : ∀ σ, PassesAt (L2.CX X.prog X.w) X σ (E σ))
    (ha : PA X (e :: es) t) (hdb : (x == ("__debug__" : Str)) = false := by decide) (he : starEach (e :: es) X.env = (false, eval e X.env) :: starEach es X.env := by rfl) (hpl : (backTo pos (starEach es X.env)).any (·.1) = false := by rfl) :
    PE X (.Call (.Name x p) (e :: es) [] pos) (tCallS sp E t) :=
  ⟨fun pins s σ H Q I h => wpAny_Call_Name_kw (ld_glob I hg hm (PySem.W.callWith_K (h₀ := X.base) I.ok.mod.kin hk (thn (ha.run pos pins s σ H _ I h) fun us s1 ⟨vs, H1, I1, r, q⟩ => ⟨I1.kIn, run_fnG F hr hb (hx σ) I1 r q⟩) he hpl) hdb)⟩
end
section
variable {X : Cx} {c : Ct} {W : WX} {e : Expr} {es : List Expr} {wl : AW} {pos p : Pos} {x : Str} {k : Nat} {f : Addr} {fd : FuncData} {ps : List Str} {S : FSpec}
theorem se_callG (F : FnG X.prog X.w X.K X.mg X.base k f fd ps (toSp (mdX X) S)) (mS : MonoF S) (tk : Takes X W) (hr : RoomG k X.A) (hg : Gl X x) (hm : X.mg x = some (.ref f)) (hk : PySem.W.keepIn X.K (.ref f) = true) (hb : Binds X.K fd ps [])
    (ha : SA X c W (e :: es) wl) (hdb : (x == ("__debug__" : Str)) = false := by decide) (he : starEach (e :: es) X.env = (false, eval e X.env) :: starEach es X.env := by rfl) (hpl : (backTo pos (starEach es X.env)).any (·.1) = false := by rfl) :
    SE X c W (.Call (.Name x p) (e :: es) [] pos) (wCall S wl) :=
  ⟨PE.imp (pe_callG F hr hg hm hk hb (passAt tk) ha.pa hdb he hpl) fun σ H Q h => call_core mS ha.mo h, .call mS ha.mo⟩
end
section
variable {P : Program} {w : World} {K : PySem.W.Frag} {mg : Str → Option Value} {base : Heap}
/-- a def of the text, with its body's reading -/
theorem fn_ofG {k : Nat} {f : Addr} {name qual : Str} {params : Arguments} {body : List Stmt} {scope : Scope} {dV kV doc pm cdv ct oc : Value} {an od : Option Addr} {osl : Array (Option Value)} {N ps : List Str} {sp : Sp}
    (lk : K.lookup f = some ⟨oc, od, .func (PySem.W.fnOf name qual params body scope dV kV doc pm an cdv ct), osl⟩) (hcd : PySem.W.codeIn K cdv qual = true) (S : FnScope N ps scope) (len : ∀ vs H Q E, sp vs H Q E → vs.length = ps.length)
    (hbody : ∀ (A : Around) (outer : List Env) (s : Shared) (H : Hp) (vs : List V) (Q : VK) (E : XK), RoomG k (A.deeper (PyProof.Rows.envOfC qual scope s.heap.objs.size f cdv)) → sp vs H Q E →
      ∃ t, PSs (cxOf (L2.CX P w) P w K mg base N qual scope f cdv A outer s H E) body t ∧ t { nx := fun _ H' => Q .non H', rt := Q } (start N vs) H) :
    FnG P w K mg base (k + 1) f (PySem.W.fnOf name qual params body scope dV kV doc pm an cdv ct) ps sp where
  len := len
  run := fun A outer s H args us vs Q E hr e0 hb r hsp => by
    have KX : K.In s.heap := e0.mod.kin.keeps fun b o e => (e0.bs b o e).1
    have lim : s.heap.NoLimit := e0.mod.nolimit.keeps fun b o e => (e0.bs b o e).1
    refine codeAny_call_function hr.rm.depth (KX _ _ lk) rfl S.co S.gen rfl (PySem.W.codeRec_of KX hcd) (hb _ _ _ _ (wpAny_newFunctionEnv_cells S.kind (fun ⟨n, v⟩ hy => ?_) fun env he s1 x => ?_))
    · exact (S.par n (List.of_mem_zip hy).1).elim .inl fun q => .inr ⟨q, PySem.W.cellsFrom_some _ _ _ (.inl q)⟩
    · subst he
      refine ⟨lim.keeps x.toInCall.keep, codeAny_func ?_⟩
      obtain ⟨t, ht, hq⟩ := hbody A outer s H vs Q E (hr.deeper _) hsp
      refine wpAny_mono (ht.run [] s1 (start N vs) H _ (inv_start S hr.rm.hd e0 (len _ _ _ _ hsp) r x) hq) (fun fl s' hs => ?_) fun e s' hs => hs
      match fl, hs with
      | .ret u, ⟨v, σ', H', J, rv, q⟩ => exact ⟨v, H', J.os, J.bare, J.base, J.hok, rv, q⟩
      | .next, ⟨σ', H', J, q⟩ => exact ⟨.non, H', J.os, J.bare, J.base, J.hok, rfl, q⟩
      | .brk, ⟨_, _, _, q⟩ => exact q.elim
      | .cont, ⟨_, _, _, q⟩ => exact q.elim
theorem fn_lvG {x qual : Str} {st : Stmt} {f : Addr} {fd : FuncData} {N ps : List Str} {k : Nat} {S : FSpec} {b : SW} (pn : List Nat) (Fn : Fun K x qual st f fd) (Sc : FnScope N ps (defScope st)) (kp : Keeps S pn ps.length N.length b)
    (hbody : ∀ (cdv : Value) (A : Around) (outer : List Env) (s : Shared) (H : Hp) (E : XK), RoomG k (A.deeper (PyProof.Rows.envOfC qual (defScope st) s.heap.objs.size f cdv)) →
      ∀ c : Ct, c.pn = pn → SSs (cxOf (L2.CX P w) P w K mg base N qual (defScope st) f cdv A outer s H E) c (fun cls d _ H => E cls d H) (defBody st) b) :
    FnG P w K mg base (k + 1) f fd ps (toSp ⟨K, mg, w⟩ S) := by
  have hpl : ps.length ≤ N.length := by have := congrArg List.length Sc.pre; rw [List.length_take] at this; omega
  have lenOf : ∀ {F H : Hp} {vs : List V} {args : List Val}, Rel ⟨K, mg, w⟩ (ctN H) F H (sV vs) (eV args) → vs.length = args.length := fun {F H vs args} R => by
    have := R.len
    unfold eV sV at this
    simpa using this.symm
  obtain ⟨oc, od, kV, doc, pm, an, cdv, ct, osl, rfl, lk, hcd⟩ := Fn.ex
  refine fn_ofG lk hcd Sc (fun vs H Q E ⟨F, args, R, h⟩ => by rw [lenOf R, (kp.fit _ _ _ h).len]) fun A outer s H vs Q E hr ⟨F, args, R, h⟩ => ?_
  have hf := kp.fit _ _ _ h
  have B := hbody cdv A outer s H E hr ⟨pn, start N vs, H, fun _ _ _ => False, H⟩ rfl
  refine ⟨_, B.ps, F, startE N.length args, R.begin hf hpl, B.mo.mo (K := KsFn pn args _ _) ⟨fun e q => ?_, fun r e q => ?_, fun _ z => z.elim, fun _ z => z.elim, fun xx e q => ?_⟩ (kp.run _ _ _ h)⟩
  · intro σ' F' H' R' ev
    obtain ⟨as, ea, q⟩ := q
    obtain ⟨R2, ev2, _⟩ := R.finish hf R' ev ea
    exact q .non F' H' R2 ev2 .non
  · intro v σ' F' H' R' ev ok
    obtain ⟨as, ea, q⟩ := q
    obtain ⟨R2, ev2, sub⟩ := R.finish hf R' ev ea
    refine q v F' H' R2 ev2 ?_
    cases r with
    | fz d => exact ok
    | sl i => exact ok.elim
    | ow o =>
      obtain ⟨p, a1, a2, a3, a4, a5⟩ := ok
      exact ⟨p, a1, a2, a3, fun b hb z => a4 b hb (sub b z), fun b hb => hb.elim (fun e => e ▸ a5.1) (a5.2 b)⟩
  · intro cl d σ' F' H' R' ev xo
    obtain ⟨as, ea, q⟩ := q
    obtain ⟨R2, ev2, _⟩ := R.finish hf R' ev ea
    exact q cl d F' H' R2 ev2 xo
end
/-- the law keeps: at every script it answers True -/
def SLaw (n : Nat) : FSpec := fun args Q _ => ∃ ns : List Int, args = [.fz (.scr ns)] ∧ ns.length ≤ n ∧ (∀ z ∈ ns, Builtin.Int.intBits z ≤ 1048576) ∧ ∀ as, backOk args as = true → Q (.fz (.bl true)) as
end LV
namespace LV
open PySem PySem.Spec L2
theorem sp_law {M : Md} {H : Hp} {a : Addr} {n : Nat} {ns : List Int} (hn : ns.length ≤ n) (hb : ∀ z ∈ ns, Builtin.Int.intBits z ≤ 1048576) (h : SqL M.K H a (ns.map V.int)) :
    toSp M (SLaw n) [.ref a] H (fun v _ => v = .bl true) fun _ _ _ => False := by
  refine ⟨H, [.fz (.scr ns)], ⟨Same.refl _, rfl, fun i d e => ?_, fun i o e => ?_, fun i _ _ _ _ e => ?_, fun i j o u p e => ?_, fun i hi => (nomatch hi), fun b u e => (nomatch e), fun i o p e => ?_, fun i o b e => ?_, fun b u e => ⟨u, e⟩⟩, ns, rfl, hn, hb, fun as k v F' H' R' ev ok => ?_⟩
  · cases i with
    | zero => cases e; exact ⟨.ref a, rfl, .scr h⟩
    | succ i => simp [eV] at e
  · cases i with
    | zero => cases e
    | succ i => simp [eV] at e
  · cases i with
    | zero => cases e
    | succ i => simp [eV] at e
  · cases i with
    | zero => cases e
    | succ i => simp [eV] at e
  · cases i with
    | zero => cases e
    | succ i => simp [eV] at e
  · cases i with
    | zero => cases e
    | succ i => simp [eV] at e
  · cases (show Rep M F' v (.bl true) from ok); rfl
section
variable {P : Program} {w : World} {K : PySem.W.Frag} {mg mb : Str → Option Value} {k n : Nat} {fa a : Addr} {fd : FuncData} {x : Str} {s₁ : Shared} {vs : List Value} {ns : List Int}
/-- the law is called on a heap in which H is tracked: nothing but the script -/
theorem law_run (KX : K.In s₁.heap) (hns : s₁.heap.Ns mainGlobals mg) (hb : s₁.heap.Ns builtinsNs mb) (hbb : ∀ x : Str, x ≠ "__name__" → mb x = bootBuiltins x) (hlim : s₁.heap.NoLimit) (hg : s₁.gens = #[])
    (ha : s₁.heap.get? a = some { cls := .type "list", data := .seq vs.toArray }) (hr : RoomG k callerA) (hn : ns.length ≤ n) (hz : ∀ z ∈ ns, Builtin.Int.intBits z ≤ 1048576)
    (F : ∀ base : Heap, K.In base → base.Ns mainGlobals mg → FnG P w K mg base k fa fd [x] (toSp ⟨K, mg, w⟩ (SLaw n))) (hbind : ∀ (s : Shared) (u : Value), BindsTo s fd ⟨[u], []⟩ [(x, u)])
    {H : Hp} (hO : Only H) (hS : SqL K H a (ns.map V.int)) (hok : HOk P w H s₁.heap) (hA : ∀ b, H b ≠ none → b = a) (hK : H a ≠ none → K.lookup a = none) :
    codeAny (model P w) callerA (.call (.ref fa) ⟨[.ref a], []⟩) (fun r s' => r = .ok (.ret (.bool true)) ∧ OldK s₁.heap s'.heap ∧ s'.os = s₁.os ∧ PyProof.Rows.AllBare s'.gens) s₁ := by
  have only : ∀ {b : Addr}, (b = a → H b = none) → H b = none := fun {b} h => by
    by_cases e : b = a
    · exact h e
    · cases q : H b with
      | none => rfl
      | some u => exact absurd (hA b (by rw [q]; simp)) e
  have dct : ∀ {b : Addr} {o : Obj} {es : Array DictEntry} {ep : Nat}, s₁.heap.get? b = some o → o.data = .dict es ep → H b = none := fun {b o es ep} e d => only fun z => by
    subst z
    rw [ha] at e; cases e; cases d
  have keepN : ∀ {b : Addr} {m : Str → Option Value}, s₁.heap.Ns b m → (hidT s₁.heap H).Ns b m := fun ⟨o, es, ep, e, d, r⟩ => ⟨o, es, ep, hidT_get e (dct e d), d, r⟩
  have keepK : K.In (hidT s₁.heap H) := fun b o e => hidT_get (KX b o e) (by
    cases q : H b with
    | none => rfl
    | some u =>
      have z := hA b (by rw [q]; simp)
      subst z
      rw [hK (by rw [q]; simp)] at e; cases e)
  have e0 : Env0 P w K mg (hidT s₁.heap H) callerA [] s₁ H :=
    ⟨rfl, ⟨keepK, keepN hns, ⟨mb, keepN hb, hbb⟩, let ⟨mc, h1, h2⟩ := hlim; ⟨mc, keepN h1, h2⟩⟩, fun b o e => of_hidT e, Nat.le_of_eq (hidT_size _ _), trivial, fun b hb => (nomatch hb), hok, .of_eq hg⟩
  refine codeAny_mono ((F _ keepK (keepN hns)).run callerA [] s₁ H ⟨[.ref a], []⟩ [.ref a] [.ref a] _ _ hr e0 (hbind s₁ (.ref a)) (.cons rfl .nil) (sp_law hn hz hS)) fun r s' h => ?_
  match r, h with
  | .error e, ⟨_, _, _, _, _, _, _, _, _, _, _, _, z⟩ => exact z.elim
  | .ok .next, h => exact h.elim
  | .ok .brk, h => exact h.elim
  | .ok .cont, h => exact h.elim
  | .ok (.ret u), ⟨v, H', os, bare, un, hok', r', q⟩ =>
    have q' : v = .bl true := q
    subst q'
    obtain rfl : u = Value.bool true := r'
    refine ⟨rfl, OldK.of_keep fun b o e => ?_, os, bare⟩
    rcases hO b with z | ⟨ob, xs, z⟩
    · exact un.keep b o e z (by intro z; exact nomatch z) (by simp)
    · have z2 := un.frzs b ob _ z
      obtain ⟨e1, _⟩ := hok b _ z
      obtain ⟨e2, _⟩ := hok' b _ z2
      rw [e] at e1; cases e1
      exact e2
theorem law_callG (KX : K.In s₁.heap) (hns : s₁.heap.Ns mainGlobals mg) (hb : s₁.heap.Ns builtinsNs mb) (hbb : ∀ x : Str, x ≠ "__name__" → mb x = bootBuiltins x) (hlim : s₁.heap.NoLimit) (hg : s₁.gens = #[])
    (ha : s₁.heap.get? a = some { cls := .type "list", data := .seq vs.toArray }) (hi : PyProof.Rows.IntsAre vs ns) (hr : RoomG k callerA) (hn : ns.length ≤ n) (hl : n ≤ sizeLine) (hz : ∀ z ∈ ns, Builtin.Int.intBits z ≤ 1048576)
    (F : ∀ base : Heap, K.In base → base.Ns mainGlobals mg → FnG P w K mg base k fa fd [x] (toSp ⟨K, mg, w⟩ (SLaw n))) (hbind : ∀ (s : Shared) (u : Value), BindsTo s fd ⟨[u], []⟩ [(x, u)]) :
    codeAny (model P w) callerA (.call (.ref fa) ⟨[.ref a], []⟩) (fun r s' => r = .ok (.ret (.bool true)) ∧ OldK s₁.heap s'.heap ∧ s'.os = s₁.os ∧ PyProof.Rows.AllBare s'.gens) s₁ := by
  have rv := vals_ints hi
  have lenV := hi.length
  cases hk : K.lookup a with
  | some o =>
    have e := KX a o hk
    rw [ha] at e
    cases e
    exact law_run (H := fun _ => none) KX hns hb hbb hlim hg ha hr hn hz F hbind (fun _ => .inl rfl) (.inr ⟨_, vs.toArray, _, hk, rfl, rfl, rfl, by rw [List.size_toArray, lenV]; omega, by simpa using rv⟩) (fun b u z => nomatch z) (fun b z => absurd rfl z) fun z => absurd rfl z
  | none =>
    refine law_run (H := fun b => if b = a then some (.frz { cls := .type "list", data := .seq vs.toArray } (.lst (ns.map V.int))) else none) KX hns hb hbb hlim hg ha hr hn hz F hbind (fun b => ?_) (.inl (.inr ⟨_, if_pos rfl⟩)) (fun b u z => ?_) (fun b z => ?_) fun _ => hk
    · by_cases e : b = a
      · exact .inr ⟨_, _, if_pos e⟩
      · exact .inl (if_neg e)
    · by_cases e : b = a
      · cases (if_pos e).symm.trans z
        subst e
        exact ⟨ha, by rw [List.length_map]; omega, vs, _, rv, ha⟩
      · cases (if_neg e).symm.trans z
    · by_cases e : b = a
      · exact e
      · exact absurd (if_neg e) z
end
/-- the goal that k_head leaves, from the law's promise -/
theorem walk_lv {l : PySem.W.OpenLaw} {n k : Nat} {q : Program} {loose : List Str} {XP : (Str → Option Value) → Heap → Prop} {YP : World → Heap → Prop} {d : DefRec} {K : Params → PySem.W.Frag} {x : Str}
    (hn : l.most = some n) (hn2 : n ≤ sizeLine) (hdf : d.params.defaults = []) (hr : RoomG k callerA) (hY : ∀ (w : World) (h : Heap), YP w h → (K w.params).In h)
    (F : ∀ (w : World) (mg : Str → Option Value) (fa : Addr) (h : Heap), (K w.params).In h → h.Ns mainGlobals mg → mg d.name = some (.ref fa) →
      ∃ fd : FuncData, (∀ (s : Shared) (u : Value), BindsTo s fd ⟨[u], []⟩ [(x, u)]) ∧
        ∀ base : Heap, (K w.params).In base → base.Ns mainGlobals mg → FnG l.prog w (K w.params) mg base k fa fd [x] (toSp ⟨K w.params, mg, w⟩ (SLaw n))) :
    PySem.W.WalkO q loose XP YP l.row.toRowW d [] (fun f vs => PySem.call f vs) := by
  refine Att.attach_callB hn hdf fun w s₀ s₁ mg mb fa o pm cd doc a vs ns G Y ho hd hcd hmg hobj hints hlen hbits hg => ?_
  obtain ⟨fd, hb, hF⟩ := F w mg fa _ (hY w _ Y) G.T.g hmg
  exact law_callG (hY w _ Y) G.T.g G.T.b G.T.builtins G.T.nolimit hg hobj hints hr hlen hn2 hbits hF hb
end LV
namespace LV
open PySem PySem.Spec L2
end LV
namespace LV
open PySem PySem.Spec L2
theorem map3 {α β γ δ : Type} {o : Option α} {f : α → β} {g : α → γ} {h : α → δ} {a : β} {b : γ} {c : δ} (e1 : o.map f = some a) (e2 : o.map g = some b) (e3 : o.map h = some c) : o.map (fun s => (f s, g s, h s)) = some (a, b, c) := by
  cases o with
  | none => cases e1
  | some s =>
    injection e1 with e1
    injection e2 with e2
    injection e3 with e3
    show some (f s, g s, h s) = _
    rw [e1, e2, e3]
end LV
namespace LV
open PySem PySem.W PyProof.Rows HeadRun
theorem seen9 {α : Type} {o : Option α} {ab : α → Shared} {q : Program} {loose mods : List PySem.Str} {Xt : Shared → Bool}
    (e1 : o.map (fun s => (seenQ q loose mods Xt (ab s)).1) = some (expectedOf q))
    (e2 : o.map (fun s => (seenQ q loose mods Xt (ab s)).2.1) = some bltViewBooted)
    (e3 : o.map (fun s => (seenQ q loose mods Xt (ab s)).2.2.1) = some true)
    (e4 : o.map (fun s => (seenQ q loose mods Xt (ab s)).2.2.2.1) = some true)
    (e5 : o.map (fun s => (seenQ q loose mods Xt (ab s)).2.2.2.2.1) = some (pinGoodD (drecsOf q)))
    (e6 : o.map (fun s => (seenQ q loose mods Xt (ab s)).2.2.2.2.2.1) = some (plainGoodE q (looseW q loose)))
    (e7 : o.map (fun s => (seenQ q loose mods Xt (ab s)).2.2.2.2.2.2.1) = some (plainGoodD q loose))
    (e8 : o.map (fun s => (seenQ q loose mods Xt (ab s)).2.2.2.2.2.2.2.1) = some (wideGood q))
    (e9 : o.map (fun s => (seenQ q loose mods Xt (ab s)).2.2.2.2.2.2.2.2) = some (clsGoodW q loose)) :
    o.map (fun s => seenQ q loose mods Xt (ab s)) = some (openGood q loose) := by
  cases o with
  | none => cases e1
  | some s =>
    injection e1 with e1
    injection e2 with e2
    injection e3 with e3
    injection e4 with e4
    injection e5 with e5
    injection e6 with e6
    injection e7 with e7
    injection e8 with e8
    injection e9 with e9
    exact congrArg some (Prod.ext e1 (Prod.ext e2 (Prod.ext e3 (Prod.ext e4 (Prod.ext e5 (Prod.ext e6 (Prod.ext e7 (Prod.ext e8 e9))))))))
end LV
namespace LV
open PySem PySem.W PyProof.Rows HeadRun
/-- the same, told of another name of the view -/
theorem seen9q {α : Type} {o : Option α} {ab : α → Shared} {q q' : Program} {loose mods : List PySem.Str} {Xf : Program → Shared → Bool} (hq : q = q')
    (e1 : o.map (fun s => (seenQ q' loose mods (Xf q') (ab s)).1) = some (expectedOf q'))
    (e2 : o.map (fun s => (seenQ q' loose mods (Xf q') (ab s)).2.1) = some bltViewBooted)
    (e3 : o.map (fun s => (seenQ q' loose mods (Xf q') (ab s)).2.2.1) = some true)
    (e4 : o.map (fun s => (seenQ q' loose mods (Xf q') (ab s)).2.2.2.1) = some true)
    (e5 : o.map (fun s => (seenQ q' loose mods (Xf q') (ab s)).2.2.2.2.1) = some (pinGoodD (drecsOf q')))
    (e6 : o.map (fun s => (seenQ q' loose mods (Xf q') (ab s)).2.2.2.2.2.1) = some (plainGoodE q' (looseW q' loose)))
    (e7 : o.map (fun s => (seenQ q' loose mods (Xf q') (ab s)).2.2.2.2.2.2.1) = some (plainGoodD q' loose))
    (e8 : o.map (fun s => (seenQ q' loose mods (Xf q') (ab s)).2.2.2.2.2.2.2.1) = some (wideGood q'))
    (e9 : o.map (fun s => (seenQ q' loose mods (Xf q') (ab s)).2.2.2.2.2.2.2.2) = some (clsGoodW q' loose)) :
    o.map (fun s => seenQ q loose mods (Xf q) (ab s)) = some (openGood q loose) := by
  subst hq
  exact seen9 e1 e2 e3 e4 e5 e6 e7 e8 e9
end LV
namespace LV
open PySem PySem.W PyProof.Rows HeadRun
/-- place by place: the table's object, an empty one of no class, else the boot's, else nothing told -/
def lay : List (Nat × Obj) → List Nat → List Obj → Nat → Nat → List (Option Obj)
  | _, _, _, 0, _ => []
  | K, Z, B, m + 1, i => match K with
    | [] => match Z with
      | [] => B.head? :: frNat (i + 1) fun i => lay [] [] B.tail m i
      | z :: Z => match Nat.beq z i with
        | true => some ⟨.none, none, .fields #[], #[]⟩ :: frNat (i + 1) fun i => lay [] Z B.tail m i
        | false => B.head? :: frNat (i + 1) fun i => lay [] (z :: Z) B.tail m i
    | (a, o) :: r => match Nat.beq a i with
      | true => some o :: frNat (i + 1) fun i => lay r Z B.tail m i
      | false => match Z with
        | [] => B.head? :: frNat (i + 1) fun i => lay ((a, o) :: r) [] B.tail m i
        | z :: Z => match Nat.beq z i with
          | true => some ⟨.none, none, .fields #[], #[]⟩ :: frNat (i + 1) fun i => lay ((a, o) :: r) Z B.tail m i
          | false => B.head? :: frNat (i + 1) fun i => lay ((a, o) :: r) (z :: Z) B.tail m i
/-- what stands at the told places -/
def pick (t : Nat → Obj) : List (Option Obj) → Nat → List (Option Obj)
  | [], _ => []
  | some _ :: r, i => some (t i) :: frNat (i + 1) fun i => pick t r i
  | none :: r, i => none :: frNat (i + 1) fun i => pick t r i
/-- the told objects, and t's at the other places -/
def ov (t : Nat → Obj) : List (Option Obj) → Nat → List Obj
  | [], _ => []
  | some o :: r, i => o :: frNat (i + 1) fun i => ov t r i
  | none :: r, i => t i :: frNat (i + 1) fun i => ov t r i
theorem ov_pick {t : Nat → Obj} : ∀ {L : List (Option Obj)} {i : Nat}, pick t L i = L → ov t L i = (List.range' i L.length).map t
  | [], _, _ => rfl
  | none :: r, i, h => by
    simp only [pick, frNat_eq, List.cons.injEq, true_and] at h
    simp only [ov, frNat_eq, List.length_cons, List.range'_succ, List.map_cons, ov_pick h]
  | some o :: r, i, h => by
    simp only [pick, frNat_eq, List.cons.injEq, Option.some.injEq] at h
    simp only [ov, frNat_eq, List.length_cons, List.range'_succ, List.map_cons, ov_pick h.2, h.1]
abbrev atT (s : SharedT) : Nat → Obj := fun a => (s.tree.get a).getD default
/-- the end of the top: a heap of this kind -/
def shOf (L : List (Option Obj)) (life : Life) (gens : Array GenState) (t : Nat → Obj) (d : Drawn) (k : Nat) (os : OsState) : Shared := ⟨⟨(ov t L 0).toArray, life⟩, gens, d, k, os⟩
theorem end_abs {o : Option SharedT} {L : List (Option Obj)} {N : Nat} {life : Life} {gens : Array GenState} (hl : L.length = N)
    (h : o.map (fun s => (s.n, s.life, s.gens, pick (atT s) L 0)) = some (N, life, gens, L)) :
    ∃ s, o = some s ∧ s.abs = shOf L life gens (atT s) s.drawn s.toks s.os := by
  cases o with
  | none => cases h
  | some s =>
    refine ⟨s, rfl, ?_⟩
    injection h with h
    injection h with h1 h
    injection h with h2 h
    injection h with h3 h4
    unfold shOf SharedT.abs absHeap BT.list
    rw [ov_pick h4, hl, h1, h2, h3, List.range_eq_range']
theorem end_look {o : Option SharedT} {L : List (Option Obj)} {N : Nat} {life : Life} {gens : Array GenState} (hl : L.length = N)
    (h : o.map (fun s => (s.n, s.life, s.gens, pick (atT s) L 0)) = some (N, life, gens, L)) {α : Type} {f : Shared → α} {a : α}
    (H : ∀ t d k os, f (shOf L life gens t d k os) = a) : o.map (fun s => f s.abs) = some a := by
  obtain ⟨s, rfl, e⟩ := end_abs hl h
  show some (f s.abs) = some a
  rw [e, H]
/-- the objects at rising places are told -/
def okA : List (Option Obj) → List Nat → Nat → Bool
  | [], as, _ => match as with
    | [] => true
    | _ :: _ => false
  | x :: L, as, i => match as with
    | [] => true
    | a :: r => match Nat.beq a i with
      | true => match x with
        | none => false
        | some _ => frNat (i + 1) fun i => okA L r i
      | false => frNat (i + 1) fun i => okA L (a :: r) i
def toldL : List (Option Obj) → List Nat → Nat → List (Option Obj)
  | [], _, _ => []
  | x :: L, as, i => match as with
    | [] => []
    | a :: r => match Nat.beq a i with
      | true => match x with
        | none => []
        | some o => alive o :: frNat (i + 1) fun i => toldL L r i
      | false => frNat (i + 1) fun i => toldL L (a :: r) i
theorem told_ok {t : Nat → Obj} : ∀ {L : List (Option Obj)} {as : List Nat} {i : Nat}, okA L as i = true → pick t L i = L → (∀ a ∈ as, a < i + L.length) ∧ as.map (fun a => alive (t a)) = toldL L as i
  | [], [], _, _, _ => ⟨(fun _ h => (nomatch h)), rfl⟩
  | [], _ :: _, _, h, _ => nomatch h
  | x :: L, [], _, _, _ => ⟨(fun _ h => (nomatch h)), rfl⟩
  | x :: L, a :: r, i, h, hp => by
    have hp' : pick t L (i + 1) = L ∧ ∀ o, x = some o → t i = o := by
      cases x with
      | none =>
        simp only [pick, frNat_eq, List.cons.injEq, true_and] at hp
        exact ⟨hp, fun _ z => nomatch z⟩
      | some o =>
        simp only [pick, frNat_eq, List.cons.injEq, Option.some.injEq] at hp
        exact ⟨hp.2, fun _ z => by cases z; exact hp.1⟩
    obtain ⟨hq, ho⟩ := hp'
    cases e : Nat.beq a i with
    | true =>
      have ai : a = i := Nat.eq_of_beq_eq_true e
      subst ai
      cases x with
      | none => simp only [okA, e] at h; exact nomatch h
      | some o =>
        simp only [okA, e, frNat_eq] at h
        obtain ⟨h1, h2⟩ := told_ok h hq
        refine ⟨fun b hb => ?_, ?_⟩
        · rcases List.mem_cons.mp hb with rfl | hb
          · rw [List.length_cons]; omega
          · have := h1 b hb; rw [List.length_cons]; omega
        · simp only [toldL, e, frNat_eq, List.map_cons, h2, ho o rfl]
    | false =>
      simp only [okA, e, frNat_eq] at h
      obtain ⟨h1, h2⟩ := told_ok h hq
      refine ⟨fun b hb => ?_, ?_⟩
      · have := h1 b hb; rw [List.length_cons]; omega
      · simp only [toldL, e, frNat_eq]
        exact h2
theorem getT_at {s : SharedT} {a : Nat} (h : a < s.n) : getT s a = alive (atT s a) := by
  unfold getT
  rw [show Nat.blt a s.n = true from Nat.ble_eq_true_of_le h]
  show (match s.tree.get a with
    | some o => alive o
    | none => alive default) = alive ((s.tree.get a).getD default)
  cases s.tree.get a <;> rfl
theorem end_objs {o : Option SharedT} {L : List (Option Obj)} {N : Nat} {life : Life} {gens : Array GenState} (hl : L.length = N)
    (h : o.map (fun s => (s.n, s.life, s.gens, pick (atT s) L 0)) = some (N, life, gens, L)) {as : List Nat} {a : List (Option Obj)}
    (hk : okA L as 0 = true) (H : toldL L as 0 = a) : o.map (fun s => as.map (getT s)) = some a := by
  cases o with
  | none => cases h
  | some s =>
    injection h with h
    injection h with h1 h
    injection h with h2 h
    injection h with h3 h4
    obtain ⟨t1, t2⟩ := told_ok hk h4
    show some (as.map (getT s)) = some a
    rw [← H, ← t2]
    refine congrArg some (List.map_congr_left fun b hb => getT_at ?_)
    have := t1 b hb
    rw [h1]
    omega
end LV
namespace LV
open PySem PySem.W PyProof.Rows HeadRun
section
local macro_rules | `(tactic| first | $_ | $_) => `(tactic| assumption)
set_option maxHeartbeats 0 in
theorem hdry : PySem.Challenge.rw_lampthrong_k00_rows_in_order.row.Holds → PySem.Challenge.rw_lampthrong_k00_rows_in_order.row.Holds := by
  intro h
  k_headL
set_option maxHeartbeats 0 in
theorem hdra : OpenRow.Holds { PySem.Challenge.rw_lampthrong_k00_rows_in_order.row with name := "zz" } → OpenRow.Holds { PySem.Challenge.rw_lampthrong_k00_rows_in_order.row with name := "zz" } := by
  intro h
  k_headL
end
end LV
namespace LV
open PySem PySem.W PyProof.Rows HeadRun
noncomputable abbrev hdQ : Program := LV.hdry.view_1
abbrev hdL : List PySem.Str := []
abbrev hdF (q : Program) (s : Shared) : Bool := xlAt q [] s && recOk PySem.Challenge.rw_lampthrong_k00_rows_in_order.row.records s
abbrev hdA : List Nat := [
  2, 3, 15, 22, 23, 24, 25, 28, 31, 36, 37, 39, 40, 42, 43, 44, 45, 46, 49, 52, 57, 58, 60, 61, 63, 64, 65, 66, 67, 70, 73, 78, 79, 81, 82, 84, 85, 86, 87, 88,
  91, 94, 99, 100, 102, 103, 105, 106, 107, 108, 109, 112, 115, 120, 121, 123, 124, 126, 127, 128, 129, 130, 133, 136, 141, 142, 144, 145, 147, 148, 149, 150, 151, 154, 157, 162, 163, 165, 166, 168,
  169, 170, 171, 172, 175, 178, 183, 184, 186, 187, 189, 190, 191, 192, 193, 196, 199, 204, 205, 207, 208, 210, 211, 212, 213, 214, 217, 220, 225, 226, 228, 229, 231, 232, 233, 234, 235, 238, 241, 246,
  247, 249, 250, 252, 253, 254, 255, 256, 259, 262, 267, 268, 270, 271, 273, 274, 275, 276, 277, 280, 283, 288, 289, 291, 292, 294, 295, 296, 297, 298, 301, 304, 309, 310, 312, 313, 315, 316, 317, 318,
  319, 322, 325, 330, 331, 333, 334, 336, 337, 338, 339, 340, 343, 346, 351, 352, 354, 355, 357, 358, 359, 360, 361, 364, 367, 372, 373, 375, 376, 378, 379, 380, 381, 382, 385, 388, 393, 394, 396, 397,
  399, 400, 401, 402, 403, 406, 409, 414, 415, 417, 418, 420, 421, 422, 423, 424, 427, 430, 435, 436, 438, 439, 441, 442, 443, 444, 445, 448, 451, 456, 457, 459, 460, 462, 463, 464, 465, 466, 469, 472,
  477, 478, 480, 481, 483, 484, 485, 486, 487, 490, 493, 498, 499, 501, 502, 504, 505, 506, 507, 508, 511, 514, 519, 520, 522, 523, 525, 526, 527, 528, 529, 532, 534, 535, 537, 538, 539, 541, 542, 544,
  545, 546, 548, 549, 551, 552, 553, 555, 556, 558, 559, 560, 562, 563, 565, 566, 567, 569, 570, 572, 573, 574, 577, 578, 579, 582, 583, 584, 586, 587, 589, 590, 591, 594, 595, 596, 598, 599, 601, 602,
  603, 605, 606, 608, 609, 610, 613, 614, 615, 617, 618, 620, 621, 622, 624, 625, 627, 628, 629, 632, 633, 634, 637, 638, 639, 641, 642, 644, 645, 646, 649, 650, 651, 654, 655, 656, 658, 659, 661, 662,
  663, 665, 666, 668, 669, 670, 672, 673, 675, 676, 677, 679, 680, 682, 683, 684, 686, 687, 689, 690, 691, 694, 695, 696, 699, 700, 701, 704, 705, 706, 709, 710, 711, 713, 714, 716, 717]
abbrev hdZ : List Nat := [
  8, 19, 38, 59, 80, 101, 122, 143, 164, 185, 206, 227, 248, 269, 290, 311, 332, 353, 374, 395, 416, 437, 458, 479, 500, 521, 533, 540, 547, 554, 561, 568, 575, 580, 585, 592, 597, 604, 611, 616,
  623, 630, 635, 640, 647, 652, 657, 664, 671, 678, 685, 692, 697, 702, 707, 712]
noncomputable def hdT (w : World) : List (Option Obj) := lay (LV.hdra.heap_1 w.params) hdZ (boot_heap w.params).objs.toList 718 0
theorem hd_n (w : World) : (hdT w).length = 718 := by kernel_rfl
def stR (w : World) (os : OsState) : Prop := (endF (stepQ (denQ tabQ) PySem.Challenge.rw_lampthrong_k00_rows_in_order.row.prog w) 14876 PySem.Challenge.rw_lampthrong_k00_rows_in_order.row.prog w os).map (fun s => (s.n, s.life, s.gens, pick (atT s) (hdT w) 0)) = some (718, (boot_heap w.params).life, #[], hdT w)
theorem hd_r (w : World) (os : OsState) : stR w os := by
  unfold stR
  kernel_rfl
theorem hd_e1l (w : World) : ∀ t d k o, looksF PySem.Challenge.rw_lampthrong_k00_rows_in_order.row.prog (boot_heap w.params) (shOf (hdT w) (boot_heap w.params).life #[] t d k o) = true := by
  intro t d k o
  kernel_rfl
theorem hd_e1 : ∀ (w : World) (os : OsState), (endF (stepQ (denQ tabQ) PySem.Challenge.rw_lampthrong_k00_rows_in_order.row.prog w) 14876 PySem.Challenge.rw_lampthrong_k00_rows_in_order.row.prog w os).map (fun s => looksF PySem.Challenge.rw_lampthrong_k00_rows_in_order.row.prog (boot_heap w.params) s.abs) = some (true) := fun w os => end_look (f := fun S => looksF PySem.Challenge.rw_lampthrong_k00_rows_in_order.row.prog (boot_heap w.params) S) (hd_n w) (hd_r w os) (hd_e1l w)
theorem hd_a1l (w : World) : ∀ t d k o, (seenQ hdQ hdL (importedModules PySem.Challenge.rw_lampthrong_k00_rows_in_order.row.prog.main.body) (hdF hdQ) (shOf (hdT w) (boot_heap w.params).life #[] t d k o)).1 = expectedOf hdQ := by
  intro t d k o
  kernel_rfl
theorem hd_a1 : ∀ (w : World) (os : OsState), (endF (stepQ (denQ tabQ) PySem.Challenge.rw_lampthrong_k00_rows_in_order.row.prog w) 14876 PySem.Challenge.rw_lampthrong_k00_rows_in_order.row.prog w os).map (fun s => (seenQ hdQ hdL (importedModules PySem.Challenge.rw_lampthrong_k00_rows_in_order.row.prog.main.body) (hdF hdQ) s.abs).1) = some (expectedOf hdQ) := fun w os => end_look (f := fun S => (seenQ hdQ hdL (importedModules PySem.Challenge.rw_lampthrong_k00_rows_in_order.row.prog.main.body) (hdF hdQ) S).1) (hd_n w) (hd_r w os) (hd_a1l w)
theorem hd_a2l (w : World) : ∀ t d k o, (seenQ hdQ hdL (importedModules PySem.Challenge.rw_lampthrong_k00_rows_in_order.row.prog.main.body) (hdF hdQ) (shOf (hdT w) (boot_heap w.params).life #[] t d k o)).2.1 = bltViewBooted := by
  intro t d k o
  kernel_rfl
theorem hd_a2 : ∀ (w : World) (os : OsState), (endF (stepQ (denQ tabQ) PySem.Challenge.rw_lampthrong_k00_rows_in_order.row.prog w) 14876 PySem.Challenge.rw_lampthrong_k00_rows_in_order.row.prog w os).map (fun s => (seenQ hdQ hdL (importedModules PySem.Challenge.rw_lampthrong_k00_rows_in_order.row.prog.main.body) (hdF hdQ) s.abs).2.1) = some (bltViewBooted) := fun w os => end_look (f := fun S => (seenQ hdQ hdL (importedModules PySem.Challenge.rw_lampthrong_k00_rows_in_order.row.prog.main.body) (hdF hdQ) S).2.1) (hd_n w) (hd_r w os) (hd_a2l w)
theorem hd_a3l (w : World) : ∀ t d k o, (seenQ hdQ hdL (importedModules PySem.Challenge.rw_lampthrong_k00_rows_in_order.row.prog.main.body) (hdF hdQ) (shOf (hdT w) (boot_heap w.params).life #[] t d k o)).2.2.1 = true := by
  intro t d k o
  kernel_rfl
theorem hd_a3 : ∀ (w : World) (os : OsState), (endF (stepQ (denQ tabQ) PySem.Challenge.rw_lampthrong_k00_rows_in_order.row.prog w) 14876 PySem.Challenge.rw_lampthrong_k00_rows_in_order.row.prog w os).map (fun s => (seenQ hdQ hdL (importedModules PySem.Challenge.rw_lampthrong_k00_rows_in_order.row.prog.main.body) (hdF hdQ) s.abs).2.2.1) = some (true) := fun w os => end_look (f := fun S => (seenQ hdQ hdL (importedModules PySem.Challenge.rw_lampthrong_k00_rows_in_order.row.prog.main.body) (hdF hdQ) S).2.2.1) (hd_n w) (hd_r w os) (hd_a3l w)
theorem hd_a4l (w : World) : ∀ t d k o, (seenQ hdQ hdL (importedModules PySem.Challenge.rw_lampthrong_k00_rows_in_order.row.prog.main.body) (hdF hdQ) (shOf (hdT w) (boot_heap w.params).life #[] t d k o)).2.2.2.1 = true := by
  intro t d k o
  kernel_rfl
theorem hd_a4 : ∀ (w : World) (os : OsState), (endF (stepQ (denQ tabQ) PySem.Challenge.rw_lampthrong_k00_rows_in_order.row.prog w) 14876 PySem.Challenge.rw_lampthrong_k00_rows_in_order.row.prog w os).map (fun s => (seenQ hdQ hdL (importedModules PySem.Challenge.rw_lampthrong_k00_rows_in_order.row.prog.main.body) (hdF hdQ) s.abs).2.2.2.1) = some (true) := fun w os => end_look (f := fun S => (seenQ hdQ hdL (importedModules PySem.Challenge.rw_lampthrong_k00_rows_in_order.row.prog.main.body) (hdF hdQ) S).2.2.2.1) (hd_n w) (hd_r w os) (hd_a4l w)
theorem hd_a5l (w : World) : ∀ t d k o, (seenQ hdQ hdL (importedModules PySem.Challenge.rw_lampthrong_k00_rows_in_order.row.prog.main.body) (hdF hdQ) (shOf (hdT w) (boot_heap w.params).life #[] t d k o)).2.2.2.2.1 = pinGoodD (drecsOf hdQ) := by
  intro t d k o
  kernel_rfl
theorem hd_a5 : ∀ (w : World) (os : OsState), (endF (stepQ (denQ tabQ) PySem.Challenge.rw_lampthrong_k00_rows_in_order.row.prog w) 14876 PySem.Challenge.rw_lampthrong_k00_rows_in_order.row.prog w os).map (fun s => (seenQ hdQ hdL (importedModules PySem.Challenge.rw_lampthrong_k00_rows_in_order.row.prog.main.body) (hdF hdQ) s.abs).2.2.2.2.1) = some (pinGoodD (drecsOf hdQ)) := fun w os => end_look (f := fun S => (seenQ hdQ hdL (importedModules PySem.Challenge.rw_lampthrong_k00_rows_in_order.row.prog.main.body) (hdF hdQ) S).2.2.2.2.1) (hd_n w) (hd_r w os) (hd_a5l w)
theorem hd_a6l (w : World) : ∀ t d k o, (seenQ hdQ hdL (importedModules PySem.Challenge.rw_lampthrong_k00_rows_in_order.row.prog.main.body) (hdF hdQ) (shOf (hdT w) (boot_heap w.params).life #[] t d k o)).2.2.2.2.2.1 = plainGoodE hdQ (looseW hdQ hdL) := by
  intro t d k o
  kernel_rfl
theorem hd_a6 : ∀ (w : World) (os : OsState), (endF (stepQ (denQ tabQ) PySem.Challenge.rw_lampthrong_k00_rows_in_order.row.prog w) 14876 PySem.Challenge.rw_lampthrong_k00_rows_in_order.row.prog w os).map (fun s => (seenQ hdQ hdL (importedModules PySem.Challenge.rw_lampthrong_k00_rows_in_order.row.prog.main.body) (hdF hdQ) s.abs).2.2.2.2.2.1) = some (plainGoodE hdQ (looseW hdQ hdL)) := fun w os => end_look (f := fun S => (seenQ hdQ hdL (importedModules PySem.Challenge.rw_lampthrong_k00_rows_in_order.row.prog.main.body) (hdF hdQ) S).2.2.2.2.2.1) (hd_n w) (hd_r w os) (hd_a6l w)
theorem hd_a7l (w : World) : ∀ t d k o, (seenQ hdQ hdL (importedModules PySem.Challenge.rw_lampthrong_k00_rows_in_order.row.prog.main.body) (hdF hdQ) (shOf (hdT w) (boot_heap w.params).life #[] t d k o)).2.2.2.2.2.2.1 = plainGoodD hdQ hdL := by
  intro t d k o
  kernel_rfl
theorem hd_a7 : ∀ (w : World) (os : OsState), (endF (stepQ (denQ tabQ) PySem.Challenge.rw_lampthrong_k00_rows_in_order.row.prog w) 14876 PySem.Challenge.rw_lampthrong_k00_rows_in_order.row.prog w os).map (fun s => (seenQ hdQ hdL (importedModules PySem.Challenge.rw_lampthrong_k00_rows_in_order.row.prog.main.body) (hdF hdQ) s.abs).2.2.2.2.2.2.1) = some (plainGoodD hdQ hdL) := fun w os => end_look (f := fun S => (seenQ hdQ hdL (importedModules PySem.Challenge.rw_lampthrong_k00_rows_in_order.row.prog.main.body) (hdF hdQ) S).2.2.2.2.2.2.1) (hd_n w) (hd_r w os) (hd_a7l w)
theorem hd_a8l (w : World) : ∀ t d k o, (seenQ hdQ hdL (importedModules PySem.Challenge.rw_lampthrong_k00_rows_in_order.row.prog.main.body) (hdF hdQ) (shOf (hdT w) (boot_heap w.params).life #[] t d k o)).2.2.2.2.2.2.2.1 = wideGood hdQ := by
  intro t d k o
  kernel_rfl
theorem hd_a8 : ∀ (w : World) (os : OsState), (endF (stepQ (denQ tabQ) PySem.Challenge.rw_lampthrong_k00_rows_in_order.row.prog w) 14876 PySem.Challenge.rw_lampthrong_k00_rows_in_order.row.prog w os).map (fun s => (seenQ hdQ hdL (importedModules PySem.Challenge.rw_lampthrong_k00_rows_in_order.row.prog.main.body) (hdF hdQ) s.abs).2.2.2.2.2.2.2.1) = some (wideGood hdQ) := fun w os => end_look (f := fun S => (seenQ hdQ hdL (importedModules PySem.Challenge.rw_lampthrong_k00_rows_in_order.row.prog.main.body) (hdF hdQ) S).2.2.2.2.2.2.2.1) (hd_n w) (hd_r w os) (hd_a8l w)
theorem hd_a9l (w : World) : ∀ t d k o, (seenQ hdQ hdL (importedModules PySem.Challenge.rw_lampthrong_k00_rows_in_order.row.prog.main.body) (hdF hdQ) (shOf (hdT w) (boot_heap w.params).life #[] t d k o)).2.2.2.2.2.2.2.2 = clsGoodW hdQ hdL := by
  intro t d k o
  kernel_rfl
theorem hd_a9 : ∀ (w : World) (os : OsState), (endF (stepQ (denQ tabQ) PySem.Challenge.rw_lampthrong_k00_rows_in_order.row.prog w) 14876 PySem.Challenge.rw_lampthrong_k00_rows_in_order.row.prog w os).map (fun s => (seenQ hdQ hdL (importedModules PySem.Challenge.rw_lampthrong_k00_rows_in_order.row.prog.main.body) (hdF hdQ) s.abs).2.2.2.2.2.2.2.2) = some (clsGoodW hdQ hdL) := fun w os => end_look (f := fun S => (seenQ hdQ hdL (importedModules PySem.Challenge.rw_lampthrong_k00_rows_in_order.row.prog.main.body) (hdF hdQ) S).2.2.2.2.2.2.2.2) (hd_n w) (hd_r w os) (hd_a9l w)
theorem hd_e3k (w : World) : okA (hdT w) hdA 0 = true := by kernel_rfl
theorem hd_e3l (w : World) : toldL (hdT w) hdA 0 = (LV.hdry.heap_1 w.params).map fun x => some x.2 := by kernel_rfl
theorem hd_e3 : ∀ (w : World) (os : OsState), (endF (stepQ (denQ tabQ) PySem.Challenge.rw_lampthrong_k00_rows_in_order.row.prog w) 14876 PySem.Challenge.rw_lampthrong_k00_rows_in_order.row.prog w os).map (fun s => hdA.map (HeadRun.getT s)) = some ((LV.hdry.heap_1 w.params).map fun x => some x.2) := fun w os => end_objs (hd_n w) (hd_r w os) (hd_e3k w) (hd_e3l w)
end LV
namespace LV
open PySem PySem.Spec L2
structure D.Shows (d : D) : Prop where
  plain : d.plain = true
  show_ : d.pd.showable = true
  deep : d.pd.depth ≤ 64
  len : d.pd.shown.length ≤ sizeLine
def gRepr : GL := fun ds Q => ∃ d, ds = [d] ∧ d.Shows ∧ Q (.fz (.str d.pd.shown))
mutual
theorem noDict : ∀ d : D, d.plain = true → d.pd.hasDict = false
  | .non, _ => rfl
  | .bl _, _ => rfl
  | .int _, _ => rfl
  | .str _, _ => rfl
  | .tup ds, h => noDictL ds h
  | .lst ds, h => noDictL ds h
  | .scr ns, _ => noDictI ns
  | .dct _ _, h => nomatch h
  | .ins _ _ _, h => nomatch h
  | .cls _, h => nomatch h
  | .tpn _, h => nomatch h
  | .exn _ _ _, h => nomatch h
theorem noDictL : ∀ ds : List D, plainL ds = true → PyData.hasDictAll (pdL ds) = false
  | [], _ => rfl
  | d :: ds, h => by
    have h' := Bool.and_eq_true_iff.mp h
    show (d.pd.hasDict || PyData.hasDictAll (pdL ds)) = false
    rw [noDict d h'.1, noDictL ds h'.2]; rfl
theorem noDictI : ∀ ns : List Int, PyData.hasDictAll (ns.map PyData.int) = false
  | [] => rfl
  | n :: ns => by
    show ((PyData.int n).hasDict || PyData.hasDictAll (ns.map PyData.int)) = false
    rw [noDictI ns]; rfl
end
section
variable {X : Cx}
def rRepr (K : PySem.W.Frag) : List V → Hp → VK → Prop := fun xs H Q => ∃ x d, xs = [x] ∧ Dp K H x d ∧ d.showable = true ∧ d.depth ≤ 64 ∧ d.hasDict = false ∧ d.shown.length ≤ sizeLine ∧ Q (.str d.shown) H
theorem call_reprG (hu : X.A.units + 66 < cLine) (hg : X.A.guards = some []) : CallR X (.builtin "repr") (rRepr X.K) := by
  intro pins s σ H xs us Q I r h
  obtain ⟨x, d, rfl, hd, h1, h2, h3, h4, q⟩ := h
  obtain ⟨u, rfl, rx⟩ := vals1 r
  obtain ⟨as, rd⟩ := Dp.reads I d x u hd rx
  have fin : ∀ (h' : Heap) (t : Tok) (tk : Nat), (∀ b o, s.heap.get? b = some o → h'.get? b = some o) → EP X pins σ Q (.str d.shown t) { s with heap := h', toks := tk } := fun h' t tk hk => ⟨.str _, H, I.kept hk, ⟨_, rfl⟩, q⟩
  cases hd with
  | non => cases rx; exact PySem.P.repr_of_none (fin s.heap _ _ fun _ _ e => e)
  | bl b => cases rx; cases b <;> exact PySem.P.repr_of_bool (fin s.heap _ _ fun _ _ e => e)
  | int i => obtain ⟨t, rfl⟩ := rx; exact PySem.P.repr_of_int (by simpa [PyData.showable] using h1) (fin s.heap _ _ fun _ _ e => e)
  | str z => obtain ⟨t, rfl⟩ := rx; exact PySem.P.repr_of_str (fin s.heap _ _ fun _ _ e => e) h4
  | lst _ _ => cases rx; exact PySem.repr_of_reads' rd h1 (fun z => by rw [h3] at z; cases z) hg (by omega) (fun _ _ e => e) (fun h' t tk hk => fin h' t tk hk) h4
  | tup _ _ => cases rx; exact PySem.repr_of_reads' rd h1 (fun z => by rw [h3] at z; cases z) hg (by omega) (fun _ _ e => e) (fun h' t tk hk => fin h' t tk hk) h4
theorem vl_repr (hu : X.A.units + 66 < cLine) (hg : X.A.guards = some []) : VRL X (.builtin "repr") gRepr :=
  .of (call_reprG hu hg) ⟨fun h ⟨d, a, b, q⟩ => ⟨d, a, b, h _ q⟩⟩ fun F ds vs H Qv sm vl ⟨d, e, s, q⟩ => by
    subst e
    obtain ⟨v, rfl, hv⟩ := vl.one
    exact ⟨v, d.pd, rfl, Vw.dp sm hv s.plain, s.show_, s.deep, noDict d s.plain, s.len, q.here sm (.str _)⟩
end
inductive Ty where | non | bl | int | str | tup | lst | dct
  deriving DecidableEq
def Ty.nm : Ty → String
  | .non => "NoneType" | .bl => "bool" | .int => "int" | .str => "str" | .tup => "tuple" | .lst => "list" | .dct => "dict"
def isaT : Ty → Ty → Bool
  | .bl, .int => true
  | a, b => a = b
theorem kitT : ∀ a b : Ty, kitB a.nm b.nm = some (isaT a b) := by
  intro a b
  cases a <;> cases b <;> decide +kernel
def D.ty : D → Option Ty
  | .non => some .non | .bl _ => some .bl | .int _ => some .int | .str _ => some .str | .tup _ => some .tup | .lst _ => some .lst | .scr _ => some .lst | .dct _ _ => none | .ins _ _ _ => none | .cls _ => none | .ptr _ => none | .exn _ _ _ => none | .tpn _ => some .tup
theorem tyx_seqT {K : PySem.W.Frag} {H : Hp} {a : Addr} {xs : List V} (h : SqT K H a xs) : TyX K H (.ref a) (.type "tuple") := by
  rcases h with (h | ⟨o, h⟩) | ⟨o, its, n, h, hc, _⟩
  · exact .base (.tup h)
  · exact .fTuple h
  · exact .kTuple h hc
theorem tyx_seqL {K : PySem.W.Frag} {H : Hp} {a : Addr} {xs : List V} (h : SqL K H a xs) : TyX K H (.ref a) (.type "list") := by
  rcases h with (h | ⟨o, h⟩) | ⟨o, its, n, h, hc, _⟩
  · exact .base (.lst h)
  · exact .base (.frz h)
  · exact .kList h hc
theorem Vw.tyx {M : Md} {F H : Hp} (sm : Same F H) {v : V} {d : D} {t : Ty} (h : Vw M F H v d) (e : d.ty = some t) : TyX M.K H v (.type t.nm) := by
  cases d with
  | non => cases h; cases e; exact .base .non
  | bl b => cases h; cases e; exact .base (.bl _)
  | int b => cases h; cases e; exact .base (.int _)
  | str b => cases h; cases e; exact .base (.str _)
  | tup ds => obtain ⟨a, xs, rfl, h1, _⟩ := h; cases e; exact tyx_seqT (Same.sqT sm h1)
  | lst ds => obtain ⟨a, xs, rfl, h1, _⟩ := h; cases e; exact .base (.lst h1)
  | scr ns => obtain ⟨a, rfl, h1⟩ := h; cases e; exact tyx_seqL h1
  | dct _ _ => cases e
  | ins _ _ _ => cases e
  | cls _ => cases e
  | ptr _ => cases e
  | exn _ _ _ => cases e
  | tpn ds => obtain ⟨a, o, xs, rfl, h1, _⟩ := h; cases e; exact tyx_seqT (.inl (.inr ⟨o, sm _ _ h1⟩))
section
variable {X : Cx} {c : Ct} {W : WX} {e : Expr} {es : List Expr} {w : EW} {p p2 pos : Pos}
def wIsi (T : Ty) (w : EW) : EW := fun env Q E => wFz w env (fun r e => ∃ d t, look e r = some d ∧ d.ty = some t ∧ Q (.fz (.bl (isaT t T))) e) E
theorem Mono.isi {T : Ty} (m : Mono w) : Mono (wIsi T w) := ⟨fun hQ hE h => m.fz.mo (fun r e ⟨d, t, a, b, q⟩ => ⟨d, t, a, b, hQ _ _ q⟩) hE h⟩
theorem se_isi {x : Str} {T : Ty} (h : SE X c W e w) (hg : Gl X "isinstance") (hm : X.mg "isinstance" = none) (hgx : Gl X x) (hmx : X.mg x = none) (hv : bootBuiltins x = some (.type T.nm)) (hn : x ≠ "__name__" := by decide) (hdx : (x == ("__debug__" : Str)) = false := by decide)
    (hb : bootBuiltins "isinstance" = some (.builtin "isinstance") := by with_unfolding_all rfl)
    (hs1 : starEach [e, .Name x p2] X.env = (false, eval e X.env) :: starEach [.Name x p2] X.env := by rfl) (hs2 : starEach [.Name x p2] X.env = (false, eval (.Name x p2) X.env) :: starEach [] X.env := by rfl) (hpl : (backTo pos (starEach [.Name x p2] X.env)).any (·.1) = false := by rfl) :
    SE X c W (.Call (.Name "isinstance" p) [e, .Name x p2] [] pos) (wIsi T w) := by
  refine ⟨PE.imp (pe_callB call_isi hg hm hb (pa_cons h.pe (pa_cons (pe_bltn hgx hmx hv (v := .ty T.nm) rfl hn hdx) pa_nil hs2) hs1) (by decide) (by decide) hs1 hpl) fun σ H Q q => ?_, .isi h.mo⟩
  obtain ⟨F, env, R, q⟩ := q
  refine opd h.mo R q fun r e' v F' H' R' ev ok ⟨d, t, l, ht, z⟩ => ?_
  exact ⟨v, .ty T.nm, .type t.nm, .type T.nm, isaT t T, rfl, .ty _, (ok.vw R' l).tyx R'.sub ht, kit_ty (kitT _ _), z (.bl _) F' H' R' ev (.bl _)⟩
theorem se_globI {x : Str} {i : Int} {t : Tok} (hg : Gl X x) (hm : X.mg x = some (.int i t)) (hd : (x == ("__debug__" : Str)) = false := by decide) : SE X c W (.Name x pos) (wC (.int i)) :=
  se_const (pe_glob (v := .int i) hg hm ⟨t, rfl⟩ hd) fun _ => .int i
def wRev (i : Nat) : SW := fun K env => ∃ ds, env[i]? = some (some (.ow (.lst ds))) ∧ K.nx (env.set i (some (.ow (.lst ds.reverse))))
end
end LV
namespace LV
open PySem PySem.Spec L2
abbrev rowD (r : List Int) : D := .tup (r.map D.int)
end LV
set_option maxHeartbeats 4000000
namespace LV
open PySem PySem.Spec PyProof.Rows L2
/-- t * 1, t not empty: t itself -/
theorem tuple_mul1 (l : Addr) (items : Array Value) (n : Nat) (dd : Option Addr) (sl : Array (Option Value)) (u : Tok) :
    Meets (Builtin.«tuple.__mul__» ⟨[.ref l, .int 1 u], []⟩) (fun _ R s => s.heap.get? l = some { cls := .type "tuple", dict := dd, data := .seq items n, slots := sl } ∧ R (.ok (.ret (Value.ref l))) s) :=
  .of_wp fun prog w A R s h => by
    obtain ⟨hp, g, d, tk, os⟩ := s
    obtain ⟨hl, h⟩ := h
    have f1 := AutoSeq1.idx_int
    wp_walk using wpAny_loadPart' hl
    exact ⟨_, rfl, h⟩
/-- t * int by values: 1 gives t itself -/
def rRep1 (K : PySem.W.Frag) : R2 := fun x y H Q => ∃ l xs, x = .ref l ∧ y = .int 1 ∧ SqT K H l xs ∧ Q (.ref l) H
theorem op_rep1 {X : Cx} : OpR X (binaryOp .Mult) (rRep1 X.K) := by
  intro pins s σ H x y v u Q I rx ry h
  obtain ⟨l, xs, rfl, rfl, hT, q⟩ := h
  cases rx
  obtain ⟨t, rfl⟩ := ry
  obtain ⟨its, r, ⟨⟨cls, dd, data, sl⟩, ho, hc, n, hd⟩, hs⟩ := I.tuple hT
  simp only at hc hd
  subst hc hd
  exact wpAny_binaryOp_repeat_ref (T := "tuple") (U := "int") (by decide) ⟨_, ho, rfl⟩ (fun s' => typeIs_int s' 1 t) noFill_tuple_mul F.fills_int_mul F.slot_int_rmul repeat_tuple F.slot_int_index.lookup
    (call_meets F.slot_int_rmul (typeIs_int s 1 t) F.entry_int_rmul (F.args_int_rmul_2 _ _) (int_rmul_tuple 1 t l its.toArray n dd sl)
      ⟨ho, rfl, ⟨_, ho, rfl⟩, call_meets F.slot_tuple_mul ⟨_, ho, rfl⟩ F.entry_tuple_mul (F.args_tuple_mul_2 _ _) (tuple_mul1 l its.toArray n dd sl t) ⟨ho, ⟨.ref l, H, I, rfl, q⟩⟩⟩)
end LV
namespace LV
open PySem PySem.Spec L2
def gMulT : G2 := fun a b Q => (∃ xs, a = .tup xs ∧ b = .int 1 ∧ Q (.fz (.tup xs))) ∨ gMul a b Q
theorem vr_mulT {X : Cx} : VR2 X (binaryOp .Mult) gMulT where
  ok := by
    intro pins s σ H x y v u Q I rx ry ⟨F, da, db, sm, vx, vy, q⟩
    rcases q with ⟨xs, rfl, rfl, q⟩ | q
    · obtain ⟨a, vs, rfl, h1, h2⟩ := vx
      cases vy
      exact op_rep1 pins s σ H _ _ v u Q I rx ry ⟨a, vs, rfl, rfl, Same.sqT sm h1, q.here sm (.tup h1 h2)⟩
    · exact vr_mul.ok pins s σ H x y v u Q I rx ry ⟨F, da, db, sm, vx, vy, q⟩
  mo := ⟨fun h q => q.elim (fun ⟨xs, a, b, q⟩ => .inl ⟨xs, a, b, h _ q⟩) fun q => .inr (Mono2.mul.mo h q)⟩
theorem gMulT_ii {i j : Int} {Q : Rv → Prop} : gMulT (.int i) (.int j) Q = (CMulX i j ∧ Q (.fz (.int (i * j)))) := propext ⟨fun h => h.elim (fun ⟨_, a, _⟩ => (nomatch a)) id, fun h => .inr h⟩
theorem gMulT_li {i : Int} {xs : List D} {Q : Rv → Prop} : gMulT (.lst xs) (.int i) Q = (-(2 ^ 63) ≤ i ∧ i < 2 ^ 63 ∧ xs.length * i.toNat ≤ sizeLine ∧ Q (.ow (.lst (List.replicate i.toNat xs).flatten))) := propext ⟨fun h => h.elim (fun ⟨_, a, _⟩ => (nomatch a)) id, fun h => .inr h⟩
end LV
set_option maxHeartbeats 400000
namespace LV
open PySem PySem.Spec L2
section
variable {X : Cx}
theorem RepL.strs {M : Md} {F : Hp} : ∀ {vs : List V} {as : List Str}, RepL M F vs (as.map D.str) → vs = as.map V.str
  | _, [], .nil => rfl
  | _, a :: as, .cons h r => by
    cases h
    rw [RepL.strs (as := as) r]; rfl
theorem Vw.strs {M : Md} {F H : Hp} {v : V} {as : List Str} (h : Vw M F H v (.lst (as.map D.str))) : ∃ l, v = .ref l ∧ SqL M.K H l (as.map V.str) := by
  obtain ⟨a, xs, rfl, h1, h2⟩ := h
  rw [RepL.strs h2] at h1
  exact ⟨a, rfl, .inl (.inl h1)⟩
end
end LV
set_option maxHeartbeats 1000000
namespace LV
open PySem PySem.Spec L2
theorem tk0 {X : Cx} : Takes X W0 := fun _ _ ⟨_, _, _, _, _, _, _, _, _, _, _, _, _, _, _, _, h⟩ => h.elim
section
variable {P : Program} {w : World} {K : PySem.W.Frag} {mg : Str → Option Value} {base : Heap} {N : List Str} {qual : Str} {scope : Scope} {f : Addr} {cd : Value} {A : Around} {outer : List Env} {s : Shared} {H : Hp} {E : XK}
theorem tkF : Takes (cxOf (L2.CX P w) P w K mg base N qual scope f cd A outer s H E) (fun cls d _ H => E cls d H) := takes_of rfl rfl rfl rfl
theorem poF : PassesOwn (model (cxOf (L2.CX P w) P w K mg base N qual scope f cd A outer s H E).prog (cxOf (L2.CX P w) P w K mg base N qual scope f cd A outer s H E).w) (cxOf (L2.CX P w) P w K mg base N qual scope f cd A outer s H E).A
    (cxOf (L2.CX P w) P w K mg base N qual scope f cd A outer s H E).env (cxOf (L2.CX P w) P w K mg base N qual scope f cd A outer s H E).xe := passes_of rfl
end
/-- a def of the text as it stands in the module -/
structure DefAt (K : PySem.W.Frag) (mg : Str → Option Value) (x : Str) (st : Stmt) (ps : List Str) (f : Addr) (fd : FuncData) : Prop where
  fn : Fun K x x st f fd
  at_ : mg x = some (.ref f)
  bd : Binds K fd ps []
/-- the def named x keeps S -/
structure Ok (P : Program) (w : World) (K : PySem.W.Frag) (mg : Str → Option Value) (base : Heap) (x : Str) (ps : List Str) (k : Nat) (S : FSpec) : Prop where
  ex : ∃ f fd, FnG P w K mg base k f fd ps (toSp ⟨K, mg, w⟩ S) ∧ mg x = some (.ref f) ∧ PySem.W.keepIn K (.ref f) = true ∧ Binds K fd ps []
theorem ok_mk {P : Program} {w : World} {K : PySem.W.Frag} {mg : Str → Option Value} {base : Heap} {x : Str} {st : Stmt} {f : Addr} {fd : FuncData} {N ps : List Str} {k : Nat} {S : FSpec} {b : SW} (pn : List Nat) (D : DefAt K mg x st ps f fd) (Sc : FnScope N ps (defScope st)) (kp : Keeps S pn ps.length N.length b)
    (hbody : ∀ (cdv : Value) (A : Around) (outer : List Env) (s : Shared) (H : Hp) (E : XK), RoomG k (A.deeper (PyProof.Rows.envOfC x (defScope st) s.heap.objs.size f cdv)) →
      ∀ (σ₀ : L2.St) (h₀ : Hp) (xc : Addr → Value → Option Addr → Prop) (hN : Hp), SSs (cxOf (L2.CX P w) P w K mg base N x (defScope st) f cdv A outer s H E) ⟨pn, σ₀, h₀, xc, hN⟩ (fun cls d _ H => E cls d H) (defBody st) b) :
    Ok P w K mg base x ps (k + 1) S :=
  ⟨f, fd, fn_lvG pn D.fn Sc kp fun cdv A outer s H E hr c hc => match c, hc with
    | ⟨_, σ₀, h₀, xc, hN⟩, rfl => hbody cdv A outer s H E hr σ₀ h₀ xc hN, D.at_, D.fn.kp, D.bd⟩
section
variable {X : Cx} {c : Ct} {W : WX} {e : Expr} {es : List Expr} {w : EW} {wl : AW} {pos p : Pos} {x : Str} {k j : Nat} {ps : List Str} {S : FSpec}
theorem se_callO (O : Ok X.prog X.w X.K X.mg X.base x ps k S) (mS : MonoF S) (tk : Takes X W) (hr : RoomG j X.A) (hg : Gl X x) (ha : SA X c W (e :: es) wl) (hk : k ≤ j := by decide) (hdb : (x == ("__debug__" : Str)) = false := by decide)
    (he : starEach (e :: es) X.env = (false, eval e X.env) :: starEach es X.env := by rfl) (hpl : (backTo pos (starEach es X.env)).any (·.1) = false := by rfl) :
    SE X c W (.Call (.Name x p) (e :: es) [] pos) (wCall S wl) :=
  let ⟨_, _, F, hm, hkp, hb⟩ := O.ex
  ⟨(se_callG F mS tk (RoomG.mono hr hk) hg hm hkp hb ha hdb he hpl).pe, .call mS ha.mo⟩
/-- an argument handed over as data: a slot's object is frozen -/
def wFrz (w : EW) : EW := fun env Q E => wFz w env (fun r e => ∃ d e2, frz1 e r = some (d, e2) ∧ Q (.fz d) e2) E
theorem Mono.frz (m : Mono w) : Mono (wFrz w) := ⟨fun hQ hE h => m.fz.mo (fun r e ⟨d, e2, a, q⟩ => ⟨d, e2, a, hQ _ _ q⟩) hE h⟩
theorem se_frz (h : SE X c W e w) : SE X c W e (wFrz w) := by
  refine ⟨PE.imp h.pe fun σ H Q q => ?_, .frz h.mo⟩
  obtain ⟨F, env, R, q⟩ := q
  refine opd h.mo R q fun r e' v F' H' R' ev ok ⟨d, e2, a, z⟩ => ?_
  obtain ⟨F2, R2, ev2, rv⟩ := frz1_ok R' ok a
  exact z v F2 H' R2 (ev.trans ev2) rv
/-- -e of an int -/
def wNeg (w : EW) : EW := fun env Q E => w env (fun r e => ∃ i, r = .fz (.int i) ∧ Q (.fz (.int (-i))) e) E
theorem Mono.neg (m : Mono w) : Mono (wNeg w) := ⟨fun hQ hE h => m.mo (fun r e ⟨i, a, q⟩ => ⟨i, a, hQ _ _ q⟩) hE h⟩
theorem se_neg (h : SE X c W e w) : SE X c W (.UnaryOp .USub e pos) (wNeg w) := by
  refine ⟨PE.imp (pe_un un_neg h.pe) fun σ H Q q => ?_, .neg h.mo⟩
  obtain ⟨F, env, R, q⟩ := q
  refine ⟨F, env, R, h.mo.mo (fun r e ⟨i, a, z⟩ => ?_) (fun _ _ z => z) q⟩
  subst a
  intro v F' H' R' ev ok
  cases ok
  exact ⟨i, rfl, z (.int (-i)) F' H' R' ev (.int _)⟩
end
end LV
namespace LV
open PySem PySem.Spec L2
theorem RoomG.u0 {k : Nat} {A : Around} (r : RoomG k A) : A.units < cLine := by have := r.rm.un; omega
theorem RoomG.u64 {k : Nat} {A : Around} (r : RoomG k A) : A.units + 64 < cLine := by have := r.rm.un; omega
theorem RoomG.u65 {k : Nat} {A : Around} (r : RoomG k A) : A.units + 65 < cLine := by have := r.rm.un; omega
theorem RoomG.u66 {k : Nat} {A : Around} (r : RoomG k A) : A.units + 66 < cLine := by have := r.rm.un; omega
/-- an own exception class of one field, with all that its use asks -/
structure XCls (P : Program) (w : World) (K : PySem.W.Frag) (mg : Str → Option Value) (base : Heap) (Cn f : Str) : Prop where
  ex : ∃ (C fI : Addr) (fd : FuncData) (p : Str), mg Cn = some (.ref C) ∧ (OexC K C ∧ XfC K C ∧ PySem.W.findIn K (.ref C) f = some none) ∧ PySem.W.findIn K (.ref C) "__init__" = some (some (.ref fI)) ∧ PySem.W.typeIn K (.ref fI) = some (.type "function") ∧
    FnOk P w K mg base (L2.CX P w) 1 fI fd ["self", p] (spX1 C f) ∧ Binds K fd ["self", p] []
theorem XCls.xc {P : Program} {w : World} {K : PySem.W.Frag} {mg : Str → Option Value} {base : Heap} {Cn f : Str} (T : XCls P w K mg base Cn f) : XC P w K mg base Cn f :=
  let ⟨C, fI, fd, p, h1, ⟨h2, _⟩, h3, h4, h5, h6⟩ := T.ex
  ⟨C, fI, fd, p, h1, h2, h3, h4, h5, h6⟩
/-- does `except B` catch an A -/
def Exm (K : PySem.W.Frag) (mg : Str → Option Value) (A B : Str) (b : Bool) : Prop := ∀ C C', mg A = some (.ref C) → mg B = some (.ref C') → PySem.W.exmOne K (.ref C) (.ref C') = some b
def ctb (l : List (Str × Bool)) : Str → Option Bool := fun s => l.lookup s
theorem catches_of {K : PySem.W.Frag} {mg : Str → Option Value} {B : Str} {C' : Addr} (hm : mg B = some (.ref C')) : ∀ {l : List (Str × Bool)}, (∀ p ∈ l, Exm K mg p.1 B p.2) → Catches K mg (.ref C') (ctb l) := fun {l} h Cn b C e hC => by
  have : (Cn, b) ∈ l := PySem.mem_of_lookup e
  exact h _ this C C' hC hm
section
variable {X : Cx} {c : Ct} {W : WX} {e : Expr} {es : List Expr} {w : EW} {pos pos' np px : Pos} {x n f nm : Str} {i : Nat} {body suite : List Stmt} {b₀ : Stmt} {wb ws : SW} {l : List (Str × Bool)}
theorem se_exV {a : Addr} {oe : Obj} {cls : Value} {d : Option Addr} {pn : List (Addr × Obj)} {c' : Ct} (T : XCls X.prog X.w X.K X.mg X.base x n) (hxc : c'.xc = fun a' c' d' => a' = a ∧ c' = cls ∧ d' = d) (hz : Zc cls d oe) (hf : ∃ vs, oe.data = .fields vs)
    (hN : X.N[i]? = some nm) (hv : Vis X.env.scope nm) (hdb : (nm == ("__debug__" : Str)) = false := by decide) (hcd : (nm == ("__classdict__" : Str)) = false := by decide) (hb : attributeBase (.Name nm px) n X.env (eval (.Name nm px) X.env) = eval (.Name nm px) X.env := by rfl) :
    SE (X.suite a ((a, oe) :: pn)) c' W0 (.Attribute (.Name nm px) n pos) (wExA i x n) :=
  let ⟨_, _, _, _, h1, ⟨_, h3, h4⟩, _⟩ := T.ex
  se_exA hxc h3 h1 h4 hz hf hN hv hdb hcd hb
theorem ss_tryV (T : XCls X.prog X.w X.K X.mg X.base x f) (hs : X.stack = X.env :: X.outer) (hf : X.env.frame = some X.env.locals) (hN : X.N.Nodup) (hi : X.N[i]? = some n) (hln : X.env.kindOf n = some .local) (hg : Gl X x) (tk : Takes X W) (po : PassesOwn (model X.prog X.w) X.A X.env X.xe)
    (hip : i ∉ c.pn) (hl : ∀ p ∈ l, Exm X.K X.mg p.1 x p.2)
    (hb : ∀ (W' : WX) (pn : List (Addr × Obj)) (xe : Value → Shared → Prop), Takes (X.tr pn xe) W' → PassesOwn (model X.prog X.w) X.A X.env xe → SSs (X.tr pn xe) c W' body wb)
    (hsu : ∀ (a : Addr) (oe : Obj) (cls : Value) (d : Option Addr) (pn : List (Addr × Obj)), Zc cls d oe → (∃ vs, oe.data = .fields vs) → SSs (X.suite a ((a, oe) :: pn)) { c with xc := fun a' c' d' => a' = a ∧ c' = cls ∧ d' = d } W0 (b₀ :: suite) ws) (hdb : (x == ("__debug__" : Str)) = false := by decide) :
    SS X c W (.Try body [.ExceptHandler (some (.Name x np)) (some n) (b₀ :: suite) pos'] [] [] pos) (wTryAs wb (ctb l) i ws) :=
  let ⟨C, _, _, _, h1, _⟩ := T.ex
  ss_tryAs hs hf hN hi hln (cv := .ref C) ⟨hg, hdb, .inl h1⟩ tk hip (catches_of h1 hl) (hb W0 [] X.xe tk0 po).mo (hsu 0 { cls := .ref C, data := .fields #[] } (.ref C) none [] ⟨rfl, rfl⟩ ⟨_, rfl⟩).mo hb hsu
end
section
variable {X : Cx} {c : Ct} {W : WX} {elt tgE iter : Expr} {ifs : List Expr} {scope : Scope} {own : List (Str × Nat)} {pos : Pos} {tg : Tg} {it : IW} {u : TW} {w : EW}
theorem se_lcV (hc : X.calm = true) (hN : X.N.Nodup) (ok : BlkOk X.N X.env.scope scope own) (hi : SI X c W tgE iter it) (hv : ∀ i ∈ own.map (·.2), i ∉ c.pn) (ht : ∀ i ∈ tg.slots, i ∈ own.map (·.2))
    (hg : ∀ (s : Shared) (H : Hp) (C : Addr) (cl : List (Str × Addr)) (fp : List Addr), SG (X.blk s H scope (compEnvC scope cl C X.env) fp) tgE tg)
    (hu : ∀ (s : Shared) (H : Hp) (C : Addr) (cl : List (Str × Addr)) (fp : List Addr), STs (X.blk s H scope (compEnvC scope cl C X.env) fp) c W0 ifs u)
    (he : ∀ (s : Shared) (H : Hp) (C : Addr) (cl : List (Str × Addr)) (fp : List Addr), SE (X.blk s H scope (compEnvC scope cl C X.env) fp) c W0 elt w)
    (hs : ∀ x, foldedSetIterable iter X.env x = pure x := by intro _; rfl) : SE X c W (.ListComp elt [⟨tgE, iter, ifs, 0⟩] scope pos) (wLc tg it u w (own.map (·.2))) :=
  se_lc hc hN hi ok hv ht (hu X.s_0 X.H_0 0 [] []).mo (he X.s_0 X.H_0 0 [] []).mo hg hu he hs
theorem ss_setLcV {i : Nat} {y : Str} {py spos : Pos} (hip : i ∉ c.pn) (hc : X.calm = true) (hN : X.N.Nodup) (hy : X.N[i]? = some y) (hyl : X.env.scope.names.lookup y = some .local) (ok : BlkOk X.N X.env.scope scope own)
    (hi : SI X c W tgE iter it) (hv : ∀ i ∈ own.map (·.2), i ∉ c.pn) (ht : ∀ i ∈ tg.slots, i ∈ own.map (·.2))
    (hg : ∀ (s : Shared) (H : Hp) (C : Addr) (cl : List (Str × Addr)) (fp : List Addr), SG (X.blk s H scope (compEnvC scope cl C X.env) fp) tgE tg)
    (hu : ∀ (s : Shared) (H : Hp) (C : Addr) (cl : List (Str × Addr)) (fp : List Addr), STs (X.blk s H scope (compEnvC scope cl C X.env) fp) c W0 ifs u)
    (he : ∀ (s : Shared) (H : Hp) (C : Addr) (cl : List (Str × Addr)) (fp : List Addr), SE (X.blk s H scope (compEnvC scope cl C X.env) fp) c W0 elt w)
    (hsw : swapsWith (.ListComp elt [⟨tgE, iter, ifs, 0⟩] scope pos) (some (.Name y py)) spos.line X.env = pure true := by rfl)
    (hs : ∀ x, foldedSetIterable iter X.env x = pure x := by intro _; rfl) : SS X c W (.Assign [.Name y py] (.ListComp elt [⟨tgE, iter, ifs, 0⟩] scope pos) spos) (wSet i (wLc tg it u w (own.map (·.2)))) :=
  ss_setLc hip hc hN hy hyl hsw hi ok hv ht (hu X.s_0 X.H_0 0 [] []).mo (he X.s_0 X.H_0 0 [] []).mo hg hu he hs
end
end LV
namespace LV
open PySem PySem.Spec L2
end LV
namespace LV
open PySem PySem.Spec L2
open PySem.W (KeepsBut AllAlike Sortable dataKind SortsAt EachIs KeyedOut dataLe sortingHeap copyHeap sorted_of_sort keyH_end sortVals keyedOut_each)
open PyProof.Rows (seqObj ksk_rest ksk_tree ksk_end ksk_fold)
end LV
namespace LV
open PySem PySem.Spec L2
section
variable {X : Cx} {c : Ct} {W : WX} {e : Expr} {es : List Expr} {w : EW} {wl : AW} {p : Pos}
def wStar (w : EW) (wl : AW) : AW := fun env Q E => wFz w env (fun r e1 => ∃ d ds, look e1 r = some d ∧ (d = .tup ds ∨ d = .lst ds) ∧ wl e1 (fun rs e2 => Q (ds.map Rv.fz ++ rs) e2) E) E
theorem opsOk_fz {M : Md} {F : Hp} {σ : St} : ∀ {xs : List V} {ds : List D} {vs : List V} {rs : List Rv}, RepL M F xs ds → OpsOk M F σ vs rs → OpsOk M F σ (xs ++ vs) (ds.map Rv.fz ++ rs)
  | _, _, _, _, .nil, h => h
  | _, _, _, _, .cons h r, h' => ⟨h, opsOk_fz r h'⟩
theorem sa_star (h : SE X c W e w) (h2 : SA X c W es wl) (hs : starEach (.Starred e p :: es) X.env = (true, eval e X.env) :: starEach es X.env := by rfl) : SA X c W (.Starred e p :: es) (wStar w wl) := by
  refine ⟨PA.imp (StX.pa_star h.pe h2.pa hs) fun σ H Q q => ?_, ⟨fun hQ hE q => h.mo.fz.mo (fun r e ⟨d, ds, a, b, q⟩ => ⟨d, ds, a, b, h2.mo.mo (fun rs e q => hQ _ _ q) hE q⟩) hE q⟩⟩
  obtain ⟨F, env, R, q⟩ := q
  refine opd h.mo R q fun r e1 v F1 H1 R1 ev1 ok1 ⟨d, ds, l, hd, q1⟩ => ?_
  have core : ∀ a xs, v = .ref a → (SqT X.K H1 a xs ∨ SqL X.K H1 a xs) → RepL (mdX X) F1 xs ds → ∃ (p : Addr) (xs : List V), v = V.ref p ∧ (SqT X.K H1 p xs ∨ SqL X.K H1 p xs) ∧ ARd (mdX X) c W wl σ H1 fun ys H2 => Q (xs ++ ys) H2 := fun a xs e hx hr => by
    refine ⟨a, xs, e, hx, F1, e1, R1, h2.mo.mo (fun rs e2 q2 => ?_) (fun _ _ z => XPost.step ev1 z) q1⟩
    intro vs F2 H2 R2 ev2 ok2
    exact q2 (xs ++ vs) F2 H2 R2 (ev1.trans ev2) (opsOk_fz (hr.same ev2.fs) ok2)
  rcases hd with rfl | rfl
  · obtain ⟨a, xs, e, h1, h2⟩ := ok1.vw R1 l
    exact core a xs e (.inl (Same.sqT R1.sub h1)) h2
  · obtain ⟨a, xs, e, h1, h2⟩ := ok1.vw R1 l
    exact core a xs e (.inr (.inl (.inl h1))) h2
end
/-- a def that takes any number of arguments behind the first ones, by its promise -/
structure FnV (P : Program) (w : World) (K : PySem.W.Frag) (mg : Str → Option Value) (base : Heap) (k : Nat) (f : Addr) (sp : Sp) : Prop where
  run : ∀ (A : Around) (outer : List Env) (s : Shared) (H : Hp) (us : List Value) (vs : List V) (Q : VK) (E : XK), RoomG k A → Env0 P w K mg base A outer s H → Vals vs us → sp vs H Q E → codeAny (model P w) A (.call (.ref f) ⟨us, []⟩) (CR (L2.CX P w) outer P w H s Q E) s
theorem FnV.mono {P : Program} {w : World} {K : PySem.W.Frag} {mg : Str → Option Value} {base : Heap} {j k : Nat} {f : Addr} {sp : Sp} (F : FnV P w K mg base j f sp) (h : j ≤ k) : FnV P w K mg base k f sp := ⟨fun A outer s H us vs Q E hr => F.run A outer s H us vs Q E (hr.mono h)⟩
def spV (M : Md) (n : Nat) (S : FSpec) : Sp := fun vs H Q E => ∃ ws rest, vs = ws ++ rest ∧ ws.length = n ∧ rest.length ≤ sizeLine ∧ ∀ p, H p = none → toSp M S (ws ++ [V.ref p]) (upd H p (.tup rest)) Q E
structure DefAtV (K : PySem.W.Frag) (mg : Str → Option Value) (x : Str) (st : Stmt) (ps : List Str) (pv : Str) (f : Addr) (fd : FuncData) : Prop where
  fn : Fun K x x st f fd
  at_ : mg x = some (.ref f)
  bd : ∀ us rest : List Value, us.length = ps.length → bindArgs fd ⟨us ++ rest, []⟩ = (newTuple rest >>= fun t => pure (ps.zip us ++ [(pv, t)]))
structure OkV (P : Program) (w : World) (K : PySem.W.Frag) (mg : Str → Option Value) (base : Heap) (x : Str) (n : Nat) (k : Nat) (S : FSpec) : Prop where
  ex : ∃ f, FnV P w K mg base k f (spV ⟨K, mg, w⟩ n S) ∧ mg x = some (.ref f) ∧ PySem.W.keepIn K (.ref f) = true
theorem okV_mk {P : Program} {w : World} {K : PySem.W.Frag} {mg : Str → Option Value} {base : Heap} {x : Str} {st : Stmt} {f : Addr} {fd : FuncData} {N ps : List Str} {pv : Str} {k : Nat} {S : FSpec} {b : SW} (D : DefAtV K mg x st ps pv f fd) (Sc : FnScope N (ps ++ [pv]) (defScope st)) (kp : Keeps S [] (ps.length + 1) N.length b)
    (hbody : ∀ (cdv : Value) (A : Around) (outer : List Env) (s : Shared) (H : Hp) (E : XK), RoomG k (A.deeper (PyProof.Rows.envOfC x (defScope st) s.heap.objs.size f cdv)) →
      ∀ (σ₀ : L2.St) (h₀ : Hp) (xc : Addr → Value → Option Addr → Prop) (hN : Hp), SSs (cxOf (L2.CX P w) P w K mg base N x (defScope st) f cdv A outer s H E) ⟨[], σ₀, h₀, xc, hN⟩ (fun cls d _ H => E cls d H) (defBody st) b) :
    OkV P w K mg base x ps.length (k + 1) S := by
  have hpl : (ps ++ [pv]).length ≤ N.length := by have := congrArg List.length Sc.pre; rw [List.length_take] at this; omega
  obtain ⟨oc, od, kV, doc, pm, an, cdv, ct, osl, e, lk, hcd⟩ := D.fn.ex
  subst e
  refine ⟨f, ⟨fun A outer s H us vs Q E hr e0 r ⟨ws, rest, ev, hl, hz, hq⟩ => ?_⟩, D.at_, D.fn.kp⟩
  subst ev
  obtain ⟨u1, u2, eu, r1, r2⟩ := StX.vals_split r
  subst eu
  have hn : H s.heap.objs.size = none := e0.hok.fresh (Nat.le_refl _)
  have hl1 : u1.length = ps.length := by rw [← r1.length]; exact hl
  have hl2 : u2.length ≤ sizeLine := by rw [← r2.length]; exact hz
  refine StX.run_bnd lk hcd Sc hr.rm e0 (G := fun xs H2 => ∃ p, H p = none ∧ xs = ws ++ [V.ref p] ∧ H2 = upd H p (.tup rest)) (fun A' Ex Q' h => ?_) fun s2 H2 xs ⟨p, hp, ex, eH⟩ hr' => ?_
  · rw [D.bd u1 u2 hl1]
    refine wpAny_bind (wpAny_newTuple (wpAny_pure ?_) hl2)
    have new : ObjOk P w (upd H s.heap.objs.size (.tup rest)) (s.heap.push ({ cls := .type "tuple", data := .seq u2.toArray } : Obj)) s.heap.objs.size (.tup rest) := ⟨hz, u2, r2, ⟨_, Heap.get?_push_size _ rfl, rfl, _, rfl⟩⟩
    have un := StX.un_laid (fs := frs outer) (s := s) (o := ({ cls := .type "tuple", data := .seq u2.toArray } : Obj)) (u := .tup rest) hn
    have z := h _ _ (ws ++ [V.ref s.heap.objs.size]) (u1 ++ [Value.ref s.heap.objs.size]) (StX.env0_laid e0 new) un rfl (fun e s' => StX.cxUp outer s H _ _ E e s' un (fun b o q => Heap.get?_push_of_some _ q) rfl) (r1.append (.cons rfl .nil))
      (by rw [List.length_append, List.length_append, hl]; rfl) ⟨_, hn, rfl, rfl⟩
    rw [List.zip_append hl1.symm] at z
    exact z
  · subst ex eH
    obtain ⟨F, args, R, h⟩ := hq p hp
    have hf := kp.fit _ _ _ h
    have B := hbody cdv A outer s2 (upd H p (.tup rest)) E ⟨hr', hr.gd⟩ (start N (ws ++ [V.ref p])) (upd H p (.tup rest)) (fun _ _ _ => False) (upd H p (.tup rest))
    refine ⟨_, B.ps, F, startE N.length args, R.begin hf (by rw [List.length_append] at hpl; exact hpl), B.mo.mo (K := KsFn [] args _ _) ⟨fun e q => ?_, fun r e q => ?_, fun _ z => z.elim, fun _ z => z.elim, fun xx e q => ?_⟩ (kp.run _ _ _ h)⟩
    · intro σ' F' H' R' ev
      obtain ⟨as, ea, q⟩ := q
      obtain ⟨R2, ev2, _⟩ := R.finish hf R' ev ea
      exact q .non F' H' R2 ev2 .non
    · intro v σ' F' H' R' ev ok
      obtain ⟨as, ea, q⟩ := q
      obtain ⟨R2, ev2, sub⟩ := R.finish hf R' ev ea
      refine q v F' H' R2 ev2 ?_
      cases r with
      | fz d => exact ok
      | sl i => exact ok.elim
      | ow o =>
        obtain ⟨p, a1, a2, a3, a4, a5⟩ := ok
        exact ⟨p, a1, a2, a3, fun b hb z => a4 b hb (sub b z), fun b hb => hb.elim (fun e => e ▸ a5.1) (a5.2 b)⟩
    · intro cl d σ' F' H' R' ev xo
      obtain ⟨as, ea, q⟩ := q
      obtain ⟨R2, ev2, _⟩ := R.finish hf R' ev ea
      exact q cl d F' H' R2 ev2 xo
section
variable {X : Cx} {c : Ct} {W : WX} {e : Expr} {es : List Expr} {wl : AW} {p pos : Pos} {x : Str} {n k j : Nat} {S : FSpec}
def wCallV (n : Nat) (S : FSpec) (wl : AW) : EW := fun env Q E => wl env (fun rs e1 => ∃ ds e2, frzL e1 rs = some (ds, e2) ∧ n ≤ ds.length ∧ ds.length ≤ sizeLine ∧ S ((ds.take n).map Val.fz ++ [.fz (.tup (ds.drop n))]) (fun r _ => (∀ i, r ≠ .sl i) ∧ Q r e2) (fun x _ => E x e2)) E
theorem Mono.callV (mS : MonoF S) (m : MonoA wl) : Mono (wCallV n S wl) := ⟨fun hQ hE h => m.mo (fun rs e1 ⟨ds, e2, a, b, c, q⟩ => ⟨ds, e2, a, b, c, mS.mo (fun r _ ⟨z, q⟩ => ⟨z, hQ _ _ q⟩) (fun _ _ z => hE _ _ z) q⟩) hE h⟩
theorem ownN {vs : List V} {ds : List D} : ∀ b, ¬ Own (sV vs) (eV (ds.map Val.fz)) b := fun b ⟨i, o, h1, h2⟩ => by
  unfold eV at h1
  rw [List.getElem?_map, List.getElem?_map] at h1
  cases h : ds[i]? with
  | none => rw [h] at h1; cases h1
  | some d => rw [h] at h1; cases h1
theorem relN {M : Md} {F H : Hp} {vs : List V} {ds : List D} (sm : Same F H) (r : RepL M F vs ds) : Rel M (ctN H) F H (sV vs) (eV (ds.map Val.fz)) := by
  have key : ∀ {i : Nat} {v : Val}, (eV (ds.map Val.fz))[i]? = some (some v) → ∃ d, v = .fz d ∧ ds[i]? = some d := fun {i v} e => by
    unfold eV at e
    rw [List.getElem?_map, List.getElem?_map] at e
    cases h : ds[i]? with
    | none => rw [h] at e; cases e
    | some d => rw [h] at e; cases e; exact ⟨d, rfl, rfl⟩
  refine ⟨sm, by unfold eV sV; rw [List.length_map, List.length_map, List.length_map, r.length], fun i d e => ?_, fun i o e => ?_, fun i a C ks vs e => ?_, fun i j o u p e => ?_, fun i hi => (nomatch hi), fun b u e => (nomatch e), fun i o p e => ?_, fun i o b e => ?_, fun b u e => ⟨u, e⟩⟩
  · obtain ⟨d', e1, h⟩ := key e
    cases e1
    obtain ⟨v, h1, h2⟩ := r.get' h
    exact ⟨v, by unfold sV; rw [List.getElem?_map, h1]; rfl, h2⟩
  all_goals
    obtain ⟨d', e1, h⟩ := key e
    cases e1
theorem callV_core {σ : L2.St} {H : Hp} {Q : VK} (mS : MonoF S) (ml : MonoA wl) (h : ERd (mdX X) c W (wCallV n S wl) σ H Q) :
    ARd (mdX X) c W wl σ H fun vs H1 => spV (mdX X) n S vs H1 Q (WE W σ) := by
  obtain ⟨F, env, R, h⟩ := h
  refine ⟨F, env, R, ml.mo (fun rs e1 ⟨ds, e2, l, hn, hz, q⟩ => ?_) (fun _ _ z => z) h⟩
  intro vs F1 H1 R1 ev1 ok
  obtain ⟨F2, R2, ev2, rl⟩ := frzL_ok R1 ok l
  have lgv := rl.length
  refine ⟨vs.take n, vs.drop n, (List.take_append_drop n vs).symm, by rw [List.length_take, lgv]; omega, by rw [List.length_drop]; omega, fun p hp => ?_⟩
  have hF : F2 p = none := R2.sub.free hp
  have sm3 : Same (upd F2 p (.tup (vs.drop n))) (upd H1 p (.tup (vs.drop n))) := same_newF R2.sub hp
  have evN : Evo Nob Nob F2 H1 (upd F2 p (.tup (vs.drop n))) (upd H1 p (.tup (vs.drop n))) := Evo.newF hp hF
  have rl3 : RepL (mdX X) (upd F2 p (.tup (vs.drop n))) (vs.take n ++ [V.ref p]) (ds.take n ++ [.tup (ds.drop n)]) :=
    ((rl.take n).same (same_upd hF)).append (.cons (.tup (.inl (.inl upd_same)) ((rl.drop n).same (same_upd hF))) .nil)
  have eArgs : (ds.take n).map Val.fz ++ [.fz (.tup (ds.drop n))] = (ds.take n ++ [D.tup (ds.drop n)]).map Val.fz := by rw [List.map_append]; rfl
  rw [eArgs] at q
  have toN : ∀ {as : List Val} {F' H' : Hp}, Evo (Own (sV (vs.take n ++ [V.ref p])) (eV ((ds.take n ++ [D.tup (ds.drop n)]).map Val.fz))) (Own (sV (vs.take n ++ [V.ref p])) (eV as)) (upd F2 p (.tup (vs.drop n))) (upd H1 p (.tup (vs.drop n))) F' H' → Evo Nob Nob F2 H1 F' H' := fun {as F' H'} ev =>
    evN.trans ⟨ev.fs, fun b o h => (ev.fn b o h).imp id fun z => z.imp id fun z => (ownN b z).elim, fun b o h _ => ev.hk b o h (ownN b), ev.ht, fun b h => h.elim⟩
  refine ⟨_, _, relN sm3 rl3, mS.mo (fun r as ⟨nsl, z⟩ => ?_) (fun xx as z => ?_) q⟩
  · intro cl d F' H' R' ev xo
    have evT := toN ev
    exact z cl d F' H' (R2.evo evT R'.sub) ((ev1.trans ev2).trans evT.nob) xo
  · intro v F' H' R' ev rv
    have evT := toN ev
    refine z v F' H' (R2.evo evT R'.sub) ((ev1.trans ev2).trans evT.nob) ?_
    cases r with
    | fz d => exact rv
    | sl i => exact absurd rfl (nsl i)
    | ow o =>
      obtain ⟨pp, a1, a2, a3, a4, a5⟩ := rv
      exact ⟨pp, a1, a2, a3, fun b hb => R2.notOwn (evN.noneOf (a5 b hb)), fun b hb => (ev1.trans ev2).noneOf (evN.noneOf (a5 b hb))⟩
theorem se_callV (O : OkV X.prog X.w X.K X.mg X.base x n k S) (mS : MonoF S) (tk : Takes X W) (hr : RoomG j X.A) (hg : Gl X x) (ha : SA X c W (e :: es) wl) (hk : k ≤ j := by decide) (hdb : (x == ("__debug__" : Str)) = false := by decide)
    (he : starEach (e :: es) X.env = (false, eval e X.env) :: starEach es X.env := by rfl) (hpl : (backTo pos (starEach es X.env)).any (·.1) = false := by rfl) :
    SE X c W (.Call (.Name x p) (e :: es) [] pos) (wCallV n S wl) := by
  obtain ⟨f, F, hm, hkp⟩ := O.ex
  refine ⟨⟨fun pins s σ H Q I h => ?_⟩, .callV mS ha.mo⟩
  refine wpAny_Call_Name_kw (ld_glob I hg hm (PySem.W.callWith_K (h₀ := X.base) I.ok.mod.kin hkp (thn (ha.pa.run pos pins s σ H _ I (callV_core mS ha.mo h)) fun us s1 ⟨vs, H1, I1, r, q⟩ => ⟨I1.kIn, ?_⟩) he hpl) hdb)
  refine wpAny_call (codeAny_mono (F.run X.A X.stack s1 H1 us vs Q (WE W σ) (hr.mono hk) I1.env0 r q) fun r s' hq => ?_)
  match r, hq with
  | .error e, hq => exact passAt tk σ pins H1 s1 e s' I1 hq
  | .ok (.ret u), hq => exact I1.after hq
  | .ok .next, hq => exact hq.elim
  | .ok .brk, hq => exact hq.elim
  | .ok .cont, hq => exact hq.elim
end
end LV
namespace LV
open PySem PySem.Spec L2
end LV
namespace LV
open PySem PySem.Spec L2
end LV
namespace LV
open PySem PySem.Spec L2
section
variable {X : Cx} {c : Ct} {W : WX} {st : Stmt} {e : Expr}
/-- min of a list of ints -/
def gMinL : GL := fun ds Q => ∃ (ns : List Int) (m : Int), ds = [.lst (ns.map D.int)] ∧ m ∈ ns ∧ (∀ y ∈ ns, m ≤ y) ∧ Q (.fz (.int m))
theorem vl_minL (hc : X.calm = true) : VRL X (.builtin "min") gMinL :=
  .of (cr_min hc) ⟨fun h ⟨i, m, e, a, b, q⟩ => ⟨i, m, e, a, b, h _ q⟩⟩ fun F ds vs H Qv sm vl ⟨bs, m, e, hm, hx, q⟩ => by
    subst e
    obtain ⟨v, rfl, a, xs, rfl, h1, h2⟩ := vl.one
    rw [RepL.ints h2] at h1
    refine ⟨a, bs, rfl, .inl (.inl h1), List.length_pos_of_mem hm, fun m' h h' => ?_⟩
    have : m' = m := Int.le_antisymm (h' _ hm) (hx _ h)
    subst this
    exact q.here sm (.int _)
end
end LV
namespace LV
open PySem PySem.Spec PySem.W L2
section
variable {P : Program} {w : World} {K : PySem.W.Frag} {mg : Str → Option Value} {base h : Heap}
theorem dat_mk {x : Str} {st : Stmt} {ps : List Str} {f : Addr} {oc : Value} {od an : Option Addr} {osl : Array (Option Value)} {kV doc pm cdv ct : Value} (X : K.In h) (G : h.Ns mainGlobals mg) (a : PySem.W.nsIn K mainGlobals x = some (some (.ref f)))
    (l : K.lookup f = some ⟨oc, od, .func (PySem.W.fnOf x x (defArgs st) (defBody st) (defScope st) .none kV doc pm an cdv ct), osl⟩) (c : PySem.W.codeIn K cdv x = true) (k : PySem.W.keepIn K (.ref f) = true)
    (b : ∀ (kV doc pm : Value) (an : Option Addr) (cdv ct : Value) (us : List Value), us.length = ps.length → bindArgs (PySem.W.fnOf x x (defArgs st) (defBody st) (defScope st) .none kV doc pm an cdv ct) ⟨us, []⟩ = pure (ps.zip us)) :
    ∃ f fd, DefAt K mg x st ps f fd := ⟨f, _, fun_mk l c k, PySem.W.mg_of X G a, (fun_mk l c k).binds b⟩
theorem dat_mkV {x : Str} {st : Stmt} {ps : List Str} {pv : Str} {f : Addr} {oc : Value} {od an : Option Addr} {osl : Array (Option Value)} {kV doc pm cdv ct : Value} (X : K.In h) (G : h.Ns mainGlobals mg) (a : PySem.W.nsIn K mainGlobals x = some (some (.ref f)))
    (l : K.lookup f = some ⟨oc, od, .func (PySem.W.fnOf x x (defArgs st) (defBody st) (defScope st) .none kV doc pm an cdv ct), osl⟩) (c : PySem.W.codeIn K cdv x = true) (k : PySem.W.keepIn K (.ref f) = true)
    (b : ∀ (kV doc pm : Value) (an : Option Addr) (cdv ct : Value) (us rest : List Value), us.length = ps.length → bindArgs (PySem.W.fnOf x x (defArgs st) (defBody st) (defScope st) .none kV doc pm an cdv ct) ⟨us ++ rest, []⟩ = (newTuple rest >>= fun t => pure (ps.zip us ++ [(pv, t)]))) :
    ∃ f fd, DefAtV K mg x st ps pv f fd := ⟨f, _, fun_mk l c k, PySem.W.mg_of X G a, b _ _ _ _ _ _⟩
theorem exm_mk {A B : Str} {C C' : Addr} {b : Bool} (X : K.In h) (G : h.Ns mainGlobals mg) (a : PySem.W.nsIn K mainGlobals A = some (some (.ref C))) (a' : PySem.W.nsIn K mainGlobals B = some (some (.ref C')))
    (eC : subIn K (.ref C') (.type "BaseException") = some true) (iC : isClsIn K C' = true) (tC : typeIn K (.ref C') = some (.type "type")) (sC : subIn K (.ref C) (.ref C') = some b) : Exm K mg A B b := fun D D' hA hB => by
  cases hA.symm.trans (PySem.W.mg_of X G a)
  cases hB.symm.trans (PySem.W.mg_of X G a')
  unfold exmOne kitCls
  unfold isClsIn at iC
  rw [eC, if_pos (by decide)]
  show (if ((clsIn K C').isSome && typeIn K (.ref C') == some (.type "type")) = true then subIn K (.ref C) (.ref C') else none) = some b
  rw [iC, tC, if_pos (by decide +kernel)]
  exact sC
theorem free_mk {ns : List (Str × NameKind)} (h : (ns.all fun p => p.2 != .free || p.1 == "__class__") = true) : ∀ y : Str, ns.lookup y = some .free → y = "__class__" := fun y e => by
  have := List.all_eq_true.mp h _ (PySem.mem_of_lookup e)
  rcases (Bool.or_eq_true_iff).mp this with z | z
  · exact nomatch (show false = true from z)
  · exact eq_of_beq z
def clsInit : Stmt → Stmt
  | .ClassDef _ _ _ (b :: _) _ _ _ _ _ _ _ => b
  | s => s
theorem x_mk {Cn f nm q qual file : Str} {st : Stmt} {C N fI cda cc : Addr} {bs bm : List Value} {sn sub ab col dd k0 k1 k2 k3 k5 : _} {oc kV doc pm ct ccl cl : Value} {od an cdd cld : Option Addr} {osl ccs csl : Array (Option Value)} {vs : Array Value} {tf : Tok} {p msg : Str} {j : Nat} {pl : Env → Sem Bool} {p0 p1 p2 p3 p4 p5 p6 p7 p8 p9 : Pos} {ar : Arg}
    (X : K.In h) (G : h.Ns mainGlobals mg) (aC : nsIn K mainGlobals Cn = some (some (.ref C))) (xL : K.lookup C = some (excClassObj nm q C N bs bm true sn sub ab col dd k0 k1 k2 k3 k5 "ValueError.__new__"))
    (ini : findIn K (.ref C) "__init__" = some (some (.ref fI)))
    (lk : K.lookup fI = some ⟨oc, od, .func (ksFn "__init__" qual (defArgs st) (defBody st) (defScope st) .none kV doc pm an (.ref cda) ct cc), osl⟩) (lcd : K.lookup cda = some ⟨ccl, cdd, .fields vs, ccs⟩) (lcc : K.lookup cc = some ⟨cl, cld, .cell (some (.ref C)), csl⟩)
    (cd : codeIn K (.ref cda) qual = true) (sa : findIn K (.ref C) "__setattr__" = some (some (.builtin "object.__setattr__"))) (eC : subIn K (.ref C) (.type "BaseException") = some true) (tC : typeIn K (.ref C) = some (.type "type")) (kC : keepIn K (.ref C) = true)
    (ga : findIn K (.ref C) "__getattribute__" = some (some (.builtin "BaseException.__getattribute__"))) (gg : findIn K (.ref C) "__getattr__" = some none) (hd : hasDictIn K C = true) (nof : findIn K (.ref C) f = some none) (tI : typeIn K (.ref fI) = some (.type "function"))
    (mro : mroIn K C (.ref C) = some true) (nosup : nsIn K mainGlobals "super" = some none) (sini : ks_superIn K C C "__init__" = some (some (.builtin "ValueError.__init__"))) (val : subIn K (.ref C) (.type "ValueError") = some true) (stat : nsIn K cStatics "thirdparty.any" = some none)
    (rf : PySem.HandSPX.refsVE bm = true) (v2 : vs[2]? = some (.str file tf)) (hfile : ((P.main.file : Str) == file) = true) (top : (P.main.scope.names.lookup ("super" : Str)).isSome = false)
    (S : LVX.SupScope ["self", p] ["self", p] (defScope st)) (hp : ((defArgs st).posonlyargs ++ (defArgs st).args).head? = some ar) (hself : ar.arg = "self")
    (hbody : defBody st = [.Expr (.Call (.Attribute (.Call (.Name "super" p0) [] [] p1) "__init__" p2) [.Constant (.str msg) j p3] [] p4) p5, .Assign [.Attribute (.Name "self" p6) f p7] (.Name p p8) p9])
    (hpd : (p == ("__debug__" : Str)) = false) (hpc : (p == ("__classdict__" : Str)) = false) (hev : SupEv p0 p1 p2 p4 (.Constant (.str msg) j p3) pl) (hsw : SupSw p0 p1 p2 p4 p5 (.Constant (.str msg) j p3))
    (b : ∀ us : List Value, us.length = (["self", p] : List Str).length → bindArgs (ksFn "__init__" qual (defArgs st) (defBody st) (defScope st) .none kV doc pm an (.ref cda) ct cc) ⟨us, []⟩ = pure ((["self", p] : List Str).zip us)) : XCls P w K mg base Cn f :=
  have T : OexC K C := ⟨⟨nm, q, N, bs, bm, sn, sub, ab, col, dd, k0, k1, k2, k3, k5, xL, rf⟩, sa, eC, tC, kC⟩
  ⟨C, fI, _, p, PySem.W.mg_of X G aC, ⟨T, ⟨ga, gg, eC, hd⟩, nof⟩, ini, tI,
    exc1 (p10 := p0) ⟨T, ⟨oc, od, kV, doc, pm, an, cda, cc, ct, osl, ccl, cdd, vs, ccs, file, tf, cl, cld, csl, rfl, lk, cd, lcd, v2, hfile, lcc⟩, mro, nosup, sini, val, stat, top⟩ S hp hself hbody nof hpd hpc hev hsw, .all b⟩
theorem fnG_mk {x : Str} {st : Stmt} {f : Addr} {fd : FuncData} {N ps : List Str} {k : Nat} {S : FSpec} {b : SW} (pn : List Nat) (D : DefAt K mg x st ps f fd) (Sc : FnScope N ps (defScope st)) (kp : Keeps S pn ps.length N.length b)
    (hbody : ∀ (cdv : Value) (A : Around) (outer : List Env) (s : Shared) (H : Hp) (E : XK), RoomG k (A.deeper (PyProof.Rows.envOfC x (defScope st) s.heap.objs.size f cdv)) →
      ∀ (σ₀ : L2.St) (h₀ : Hp) (xc : Addr → Value → Option Addr → Prop) (hN : Hp), SSs (cxOf (L2.CX P w) P w K mg base N x (defScope st) f cdv A outer s H E) ⟨pn, σ₀, h₀, xc, hN⟩ (fun cls d _ H => E cls d H) (defBody st) b) :
    FnG P w K mg base (k + 1) f fd ps (toSp ⟨K, mg, w⟩ S) :=
  fn_lvG pn D.fn Sc kp fun cdv A outer s H E hr c hc => match c, hc with
    | ⟨_, σ₀, h₀, xc, hN⟩, rfl => hbody cdv A outer s H E hr σ₀ h₀ xc hN
/-- the law's own def, at the law's call -/
theorem law_at {st : Stmt} {x : Str} {k n : Nat} {fa : Addr} (hfa : mg "law" = some (.ref fa)) (D : ∃ f fd, DefAt K mg "law" st [x] f fd)
    (b : ∀ (kV doc pm : Value) (an : Option Addr) (cdv ct : Value) (us : List Value), us.length = [x].length → bindArgs (PySem.W.fnOf "law" "law" (defArgs st) (defBody st) (defScope st) .none kV doc pm an cdv ct) ⟨us, []⟩ = pure ([x].zip us))
    (F : ∀ base : Heap, ∀ f fd, DefAt K mg "law" st [x] f fd → FnG P w K mg base k f fd [x] (toSp ⟨K, mg, w⟩ (SLaw n))) :
    ∃ fd : FuncData, (∀ (s : Shared) (u : Value), BindsTo s fd ⟨[u], []⟩ [(x, u)]) ∧ ∀ base : Heap, K.In base → base.Ns mainGlobals mg → FnG P w K mg base k fa fd [x] (toSp ⟨K, mg, w⟩ (SLaw n)) := by
  obtain ⟨f, fd, D⟩ := D
  have e := hfa.symm.trans D.at_
  cases e
  refine ⟨fd, fun s u => ?_, fun base _ _ => F base _ _ D⟩
  obtain ⟨oc, od, kV, doc, pm, an, cdv, ct, osl, rfl, lk, hcd⟩ := D.fn.ex
  exact .of_eq (b _ _ _ _ _ _ [u] rfl)
end
end LV
namespace LV
open PySem PySem.Spec L2
section
variable {i j : Int} {Q : Rv → Prop} {p : Int → Int → Bool} {f : List Int → List Int → Bool} {ns ms : List Int} {b : Bool} {s : Str}
theorem map_int_inj : ∀ {ns ms : List Int}, ns.map D.int = ms.map D.int → ns = ms
  | [], [], _ => rfl
  | n :: ns, m :: ms, h => by
    rw [List.map_cons, List.map_cons] at h
    injection h with h1 h2
    injection h1 with h1
    rw [h1, map_int_inj h2]
  | [], _ :: _, h => nomatch h
  | _ :: _, [], h => nomatch h
theorem gOrd_ii : gOrd p f (.int i) (.int j) Q = Q (.fz (.bl (p i j))) := propext ⟨fun h => by
  rcases h with ⟨i', j', e1, e2, q⟩ | ⟨_, _, e1, _⟩
  · injection e1 with e1; injection e2 with e2; subst e1 e2; exact q
  · (cases e1), fun q => .inl ⟨i, j, rfl, rfl, q⟩⟩
theorem gOrd_tt : gOrd p f (.tup (ns.map D.int)) (.tup (ms.map D.int)) Q = Q (.fz (.bl (f ns ms))) := propext ⟨fun h => by
  rcases h with ⟨i', j', e1, e2, q⟩ | ⟨a, b, e1, e2, q⟩
  · cases e1
  · injection e1 with e1; injection e2 with e2
    rw [map_int_inj e1, map_int_inj e2]; exact q, fun q => .inr ⟨ns, ms, rfl, rfl, q⟩⟩
theorem gInt_ii {C : Int → Int → Prop} {g : Int → Int → Int} : gInt C g (.int i) (.int j) Q = (C i j ∧ Q (.fz (.int (g i j)))) := propext ⟨fun ⟨i', j', e1, e2, c, q⟩ => by
  injection e1 with e1; injection e2 with e2; subst e1 e2; exact ⟨c, q⟩, fun ⟨c, q⟩ => ⟨i, j, rfl, rfl, c, q⟩⟩
theorem gInt1_i : gInt1 [.int i] Q = Q (.fz (.int i)) := propext ⟨fun h => by
  rcases h with ⟨i', e, q⟩ | ⟨k, e, q⟩
  · injection e with e _; injection e with e; subst e; exact q
  · injection e with e _; (cases e), fun q => .inl ⟨i, rfl, q⟩⟩
theorem gAbs_i : gAbs [.int i] Q = Q (.fz (.int (if i < 0 then -i else i))) := propext ⟨fun ⟨i', e, q⟩ => by
  injection e with e _; injection e with e; subst e; exact q, fun q => ⟨i, rfl, q⟩⟩
theorem gMax2_ii : gMax2 [.int i, .int j] Q = Q (.fz (.int (if j > i then j else i))) := propext ⟨fun ⟨i', j', e, q⟩ => by
  injection e with e1 e; injection e with e2 _; injection e1 with e1; injection e2 with e2; subst e1 e2; exact q, fun q => ⟨i, j, rfl, q⟩⟩
theorem gMin2_ii : gMin2 [.int i, .int j] Q = Q (.fz (.int (if j < i then j else i))) := propext ⟨fun ⟨i', j', e, q⟩ => by
  injection e with e1 e; injection e with e2 _; injection e1 with e1; injection e2 with e2; subst e1 e2; exact q, fun q => ⟨i, j, rfl, q⟩⟩
theorem gLt_ii : gLt (.int i) (.int j) Q = Q (.fz (.bl (decide (i < j)))) := gOrd_ii
theorem gLe_ii : gLe (.int i) (.int j) Q = Q (.fz (.bl (decide (i ≤ j)))) := gOrd_ii
theorem gGt_ii : gGt (.int i) (.int j) Q = Q (.fz (.bl (decide (j < i)))) := gOrd_ii
theorem gGe_ii : gGe (.int i) (.int j) Q = Q (.fz (.bl (decide (j ≤ i)))) := gOrd_ii
theorem gLt_tt : gLt (rowD ns) (rowD ms) Q = Q (.fz (.bl (ltI ns ms))) := gOrd_tt
theorem gLe_tt : gLe (rowD ns) (rowD ms) Q = Q (.fz (.bl (leI ns ms))) := gOrd_tt
theorem gGt_tt : gGt (rowD ns) (rowD ms) Q = Q (.fz (.bl (ltI ms ns))) := gOrd_tt
theorem gGe_tt : gGe (rowD ns) (rowD ms) Q = Q (.fz (.bl (leI ms ns))) := gOrd_tt
theorem gSub_ii : gSub (.int i) (.int j) Q = Q (.fz (.int (i - j))) := by unfold gSub; rw [gInt_ii]; exact propext ⟨fun h => h.2, fun h => ⟨True.intro, h⟩⟩
theorem gMod_ii : gMod (.int i) (.int j) Q = (j ≠ 0 ∧ Q (.fz (.int (i.fmod j)))) := gInt_ii
theorem gDiv_ii : gDiv (.int i) (.int j) Q = (CDvA i j ∧ Q (.fz (.int (i.fdiv j)))) := gInt_ii
theorem gPow_ii : gPow (.int i) (.int j) Q = (CPow i j ∧ Q (.fz (.int (i ^ j.toNat)))) := gInt_ii
theorem gAdd_ii : gAdd (.int i) (.int j) Q = Q (.fz (.int (i + j))) := rfl
theorem gAdd_ss {s t : Str} : gAdd (.str s) (.str t) Q = (s.length + t.length ≤ sizeLine ∧ Q (.fz (.str (s ++ t)))) := rfl
theorem gAdd_tt {xs ys : List D} : gAdd (.tup xs) (.tup ys) Q = (xs.length + ys.length ≤ sizeLine ∧ Q (.fz (.tup (xs ++ ys)))) := rfl
theorem gAdd_ll {xs ys : List D} : gAdd (.lst xs) (.lst ys) Q = (xs.length + ys.length ≤ sizeLine ∧ Q (.ow (.lst (xs ++ ys)))) := rfl
theorem gMul_li {xs : List D} : gMul (.lst xs) (.int i) Q = (-(2 ^ 63) ≤ i ∧ i < 2 ^ 63 ∧ xs.length * i.toNat ≤ sizeLine ∧ Q (.ow (.lst (List.replicate i.toNat xs).flatten))) := rfl
theorem gIx_t {xs : List D} : gIx (.tup xs) (.int i) Q = ∃ d, L2.atI xs i = some d ∧ Q (.fz d) := rfl
theorem gIx_l {xs : List D} : gIx (.lst xs) (.int i) Q = ∃ d, L2.atI xs i = some d ∧ Q (.fz d) := rfl
theorem gIx_s {xs : List Int} : gIx (.scr xs) (.int i) Q = ∃ d, L2.atI xs i = some d ∧ Q (.fz (.int d)) := rfl
theorem gIx_x {z : Str} : gIx (.str z) (.int i) Q = (z.length ≤ sizeLine ∧ ∃ c, L2.atI z.cps.toList i = some c ∧ Q (.fz (.str ⟨#[c]⟩))) := rfl
theorem okE_int : (D.int i).okE = true := rfl
theorem okE_bl : (D.bl b).okE = true := rfl
theorem okE_non : D.non.okE = true := rfl
theorem eqv_ii : eqvD (.int i) (.int j) = (i == j) := rfl
theorem eqv_ss {t : Str} : eqvD (.str s) (.str t) = (s == t) := rfl
end
theorem at_0 {α : Type} {a : α} {l : List α} : L2.atI (a :: l) 0 = some a := by
  unfold L2.atI L2.ixN
  rw [if_pos (Int.le_refl 0), if_pos (by rw [List.length_cons]; omega)]; rfl
theorem at_1 {α : Type} {a b : α} {l : List α} : L2.atI (a :: b :: l) 1 = some b := by
  unfold L2.atI L2.ixN
  rw [if_pos (by decide), if_pos (by rw [List.length_cons, List.length_cons]; omega)]; rfl
theorem at_2 {α : Type} {a b c : α} {l : List α} : L2.atI (a :: b :: c :: l) 2 = some c := by
  unfold L2.atI L2.ixN
  rw [if_pos (by decide), if_pos (by rw [List.length_cons, List.length_cons, List.length_cons]; omega)]; rfl
theorem at_3 {α : Type} {a b c d : α} {l : List α} : L2.atI (a :: b :: c :: d :: l) 3 = some d := by
  unfold L2.atI L2.ixN
  rw [if_pos (by decide), if_pos (by rw [List.length_cons, List.length_cons, List.length_cons, List.length_cons]; omega)]; rfl
theorem ix4_0 : ixN 4 0 = some 0 := rfl
theorem ix4_1 : ixN 4 1 = some 1 := rfl
theorem ix4_2 : ixN 4 2 = some 2 := rfl
theorem ix4_3 : ixN 4 3 = some 3 := rfl
/-- a place inside -/
theorem at_in {α : Type} {l : List α} {i : Int} (h0 : 0 ≤ i) (h : i < l.length) : ∃ x, L2.atI l i = some x ∧ x ∈ l := by
  unfold L2.atI L2.ixN
  rw [if_pos h0, if_pos h]
  exact ⟨l[i.toNat]'(by omega), List.getElem?_eq_getElem (by omega), List.getElem_mem _⟩
theorem iteB {b : Bool} {X Y : Prop} {inst : Decidable (b = true)} (h1 : b = true → X) (h2 : b = false → Y) : @ite Prop (b = true) inst X Y := by
  cases b with
  | true => rw [if_pos rfl]; exact h1 rfl
  | false => rw [if_neg Bool.false_ne_true]; exact h2 rfl
theorem fit1 {pn : List Nat} {d : D} : ArgsFit pn 1 [.fz d] := ⟨rfl, fun j o h => by rcases j with _ | j <;> simp at h, fun j a C ks vs h => by rcases j with _ | j <;> simp at h⟩
theorem fit2 {pn : List Nat} {d d' : D} : ArgsFit pn 2 [.fz d, .fz d'] := ⟨rfl, fun j o h => by rcases j with _ | _ | j <;> simp at h, fun j a C ks vs h => by rcases j with _ | _ | j <;> simp at h⟩
theorem fit3 {pn : List Nat} {d d' d'' : D} : ArgsFit pn 3 [.fz d, .fz d', .fz d''] := ⟨rfl, fun j o h => by rcases j with _ | _ | _ | j <;> simp at h, fun j a C ks vs h => by rcases j with _ | _ | _ | j <;> simp at h⟩
theorem fitO1 {o : O} : ArgsFit [0] 1 [.ow o] := ⟨rfl, fun j o h => by rcases j with _ | j <;> simp at h ⊢, fun j a C ks vs h => by rcases j with _ | j <;> simp at h⟩
theorem fitO2 {o : O} {d : D} : ArgsFit [0] 2 [.ow o, .fz d] := ⟨rfl, fun j o h => by rcases j with _ | _ | j <;> simp at h ⊢, fun j a C ks vs h => by rcases j with _ | _ | j <;> simp at h⟩
theorem zipD_ints : ∀ (xs ys : List Int), zipD (xs.map D.int) (ys.map D.int) = (xs.zip ys).map fun p => D.tup [.int p.1, .int p.2]
  | [], _ => by simp [zipD]
  | _ :: _, [] => by simp [zipD]
  | x :: xs, y :: ys => by simp [zipD, zipD_ints xs ys]
theorem plain_ty {d : D} (h : d.plain = true) : ∃ t, d.ty = some t := by cases d <;> first | exact ⟨_, rfl⟩ | cases h
end LV
namespace LV
open PySem PySem.Spec L2
/-- one statement at a time: what follows it is a name -/
theorem seq_k {s1 s2 : SW} {K : Ks} {env : En} (h : ∀ K1 : Ks, (∀ e, s2 K e → K1.nx e) → K1.rt = K.rt → K1.bk = K.bk → K1.ct = K.ct → K1.ex = K.ex → s1 K1 env) : wSeq s1 s2 K env :=
  h { K with nx := fun e => s2 K e } (fun _ q => q) rfl rfl rfl rfl
end LV
open PySem PySem.Spec L2 LV
local macro_rules | `(tactic| walk_at "lv") => `(tactic| simp only [wSeq, wSkip, wRet, wRetN, wIf, wSet, wSetIx, wExp, wApp, wFor, wBrk, wCnt, wRev, wAnd, wOr, wNot, wIte, wtNot, wtAnd, wtOr, wB, wTru, wVar, wC, wOp2, wFz, wIsi, wTup, wLst, wNil, wCons, wBlt, wFrz, wNeg, wCall, wSl, wNoP, wPt, wChain, wIt, itR, itemsD, wRng1, wRng2, wZip, wRaise1,
  retR, setR, Rv.frz, look, lookL, frz1, frzL, valOf, valL, slotsOf, putL, startE, O.d, bindT, bindS, loopW, List.map_cons, List.map_nil, List.length_cons, List.length_nil, List.replicate, List.cons_append, List.nil_append, List.getElem?_cons_zero, List.getElem?_cons_succ, List.set_cons_zero, List.set_cons_succ, List.set_nil, List.append_nil,
  gLt_ii, gLe_ii, gGt_ii, gGe_ii, gLt_tt, gLe_tt, gGt_tt, gGe_tt, gAdd_ii, gAdd_ss, gAdd_tt, gAdd_ll, gSub_ii, gMod_ii, gDiv_ii, gPow_ii, gMulT_ii, gMulT_li, gIx_t, gIx_l, gIx_s, gIx_x, gLen, gInt1_i, gAbs_i, gMax2_ii, gMin2_ii, gList, gTuple, gEq, gNe, gIn, gNotIn, gIsN, gIsNotN, okE_int, okE_bl, okE_non, eqv_ii, eqv_ss, truD, isN, yesK, gSl, at_0, at_1, at_2, at_3, ix4_0, ix4_1, ix4_2, ix4_3,
  Nat.zero_add, Nat.sub_self, Nat.reduceAdd, Nat.reduceSub, Nat.add_one_sub_one, Option.some.injEq, Prod.mk.injEq, D.int.injEq, D.bl.injEq, D.tup.injEq, D.lst.injEq, Rv.fz.injEq, Rv.sl.injEq, exists_eq_left, exists_eq_left', exists_and_left, and_assoc, exists_eq, exists_eq', Option.getD_some, Option.getD_some, true_and, and_true, implies_true, if_true, if_false, Bool.false_eq_true, reduceCtorEq, ite_true, ite_false, ne_eq, not_false_eq_true, not_true_eq_false,
  KsFn, finA, List.mem_nil_iff, List.not_mem_nil, List.mem_cons, backOk, List.cons.injEq, Val.fz.injEq, Val.ow.injEq, O.lst.injEq, or_false, or_true, false_or, exists_false, false_and, and_false, List.nodup_nil, List.nodup_cons, Bool.not_true, Bool.not_false])
local macro_rules | `(tactic| simp_all! only [$ts,*]) => `(tactic| simp only [$ts,*, wSeq, wSkip, wRet, wRetN, wIf, wSet, wSetIx, wExp, wApp, wFor, wBrk, wCnt, wRev, wAnd, wOr, wNot, wIte, wtNot, wtAnd, wtOr, wB, wTru, wVar, wC, wOp2, wFz, wIsi, wTup, wLst, wNil, wCons, wBlt, wFrz, wNeg, wCall, wSl, wNoP, wPt, wChain, wIt, itR, itemsD, wRng1, wRng2, wZip, wRaise1,
  retR, setR, Rv.frz, look, lookL, frz1, frzL, valOf, valL, slotsOf, putL, startE, O.d, bindT, bindS, loopW, List.map_cons, List.map_nil, List.length_cons, List.length_nil, List.replicate, List.cons_append, List.nil_append, List.getElem?_cons_zero, List.getElem?_cons_succ, List.set_cons_zero, List.set_cons_succ, List.set_nil, List.append_nil,
  gLt_ii, gLe_ii, gGt_ii, gGe_ii, gLt_tt, gLe_tt, gGt_tt, gGe_tt, gAdd_ii, gAdd_ss, gAdd_tt, gAdd_ll, gSub_ii, gMod_ii, gDiv_ii, gPow_ii, gMulT_ii, gMulT_li, gIx_t, gIx_l, gIx_s, gIx_x, gLen, gInt1_i, gAbs_i, gMax2_ii, gMin2_ii, gList, gTuple, gEq, gNe, gIn, gNotIn, gIsN, gIsNotN, okE_int, okE_bl, okE_non, eqv_ii, eqv_ss, truD, isN, yesK, gSl, at_0, at_1, at_2, at_3, ix4_0, ix4_1, ix4_2, ix4_3,
  Nat.zero_add, Nat.sub_self, Nat.reduceAdd, Nat.reduceSub, Nat.add_one_sub_one, Option.some.injEq, Prod.mk.injEq, D.int.injEq, D.bl.injEq, D.tup.injEq, D.lst.injEq, Rv.fz.injEq, Rv.sl.injEq, exists_eq_left, exists_eq_left', exists_and_left, and_assoc, exists_eq, exists_eq', Option.getD_some, Option.getD_some, true_and, and_true, implies_true, if_true, if_false, Bool.false_eq_true, reduceCtorEq, ite_true, ite_false, ne_eq, not_false_eq_true, not_true_eq_false,
  KsFn, finA, List.mem_nil_iff, List.not_mem_nil, List.mem_cons, backOk, List.cons.injEq, Val.fz.injEq, Val.ow.injEq, O.lst.injEq, or_false, or_true, false_or, exists_false, false_and, and_false, List.nodup_nil, List.nodup_cons, Bool.not_true, Bool.not_false])
namespace LV
open PySem PySem.Spec L2
end LV
namespace LV
open PySem PySem.Spec L2
/-- a try with one handler: the body runs to a name -/
theorem try_k {wb ws : SW} {ct : Str → Option Bool} {i : Nat} {K : Ks} {env : En}
    (h : ∀ K1 : Ks, K1.nx = K.nx → K1.rt = K.rt → K1.bk = K.bk → K1.ct = K.ct →
      (∀ x e, noEx e = true → ct x.C = some true → (∀ a, ws (KsSu i K) (e.set i (some (.ex a x.C x.ks x.vs)))) → K1.ex x e) →
      (∀ x e, noEx e = true → ct x.C = some false → K.ex x e → K1.ex x e) → wb K1 env) : wTryAs wb ct i ws K env :=
  h { K with ex := fun x e => noEx e = true ∧ ∃ b, ct x.C = some b ∧ if b = true then ∀ a, ws (KsSu i K) (e.set i (some (.ex a x.C x.ks x.vs))) else K.ex x e } rfl rfl rfl rfl
    (fun x e n c q => ⟨n, true, c, by rw [if_pos rfl]; exact q⟩) (fun x e n c q => ⟨n, false, c, by rw [if_neg Bool.false_ne_true]; exact q⟩)
end LV
namespace LV
open PySem PySem.Spec PyProof.Rows L2
abbrev ClA := Value × Nat × (Addr → Value → Option Addr → TS)
abbrev ClM := (Str → Option Bool) × Nat × SW
def exM (K : Ks) : List ClM → XW
  | [] => K.ex
  | (ct, i, ws) :: r => fun x e => noEx e = true ∧ ∃ b, ct x.C = some b ∧ if b = true then ∀ a, ws (KsSu i K) (e.set i (some (.ex a x.C x.ks x.vs))) else exM K r x e
abbrev tsOf (X : Cx) (c : Ct) (ws : SW) : Addr → Value → Option Addr → TS := fun a cls d => SRd (mdX X) { c with xc := fun a' c' d' => a' = a ∧ c' = cls ∧ d' = d } W0 ws
inductive HdL (X : Cx) (c : Ct) : List ExceptHandler → List ClM → List ClA → Prop
  | nil : HdL X c [] [] []
  | cons {x n : Str} {cv : Value} {i : Nat} {ct : Str → Option Bool} {ws : SW} {b₀ : Stmt} {su : List Stmt} {np pp : Pos} {hds : List ExceptHandler} {hs : List ClM} {l : List ClA} (hi : X.N[i]? = some n) (hln : X.env.kindOf n = some .local) (hc : Names X x cv) (hip : i ∉ c.pn) (hca : Catches X.K X.mg cv ct) (ms : MonoS ws)
      (hsu : ∀ (a : Addr) (oe : Obj) (cls : Value) (d : Option Addr) (pn : List (Addr × Obj)), Zc cls d oe → (∃ vs, oe.data = .fields vs) → SSs (X.suite a ((a, oe) :: pn)) { c with xc := fun a' c' d' => a' = a ∧ c' = cls ∧ d' = d } W0 (b₀ :: su) ws) (r : HdL X c hds hs l) :
      HdL X c (.ExceptHandler (some (.Name x np)) (some n) (b₀ :: su) pp :: hds) ((ct, i, ws) :: hs) ((cv, i, tsOf X c ws) :: l)
section
variable {X : Cx} {c : Ct} {W : WX} {body : List Stmt} {h₀ : ExceptHandler} {hds : List ExceptHandler} {hs : List ClM} {l : List ClA} {pos : Pos} {wb : SW}
theorem HdL.mono {hds : List ExceptHandler} (h : HdL X c hds hs l) {K K' : Ks} (k : KLe K K') : ∀ x e, exM K hs x e → exM K' hs x e := by
  induction h with
  | nil => exact k.ex
  | @cons x n cv i ct ws b₀ su np pp hds hs l hi hln hc hip hca ms hsu r ih =>
    intro x e ⟨n, b, h, z⟩
    refine ⟨n, b, h, ?_⟩
    cases b with
    | true =>
      rw [if_pos rfl] at z ⊢
      exact fun a => ms.mo (K := KsSu i K) ⟨fun _ ⟨a, b⟩ => ⟨a, k.nx _ b⟩, fun _ _ ⟨a, b⟩ => ⟨a, k.rt _ _ b⟩, fun _ ⟨a, b⟩ => ⟨a, k.bk _ b⟩, fun _ ⟨a, b⟩ => ⟨a, k.ct _ b⟩, fun _ _ z => z⟩ (z a)
    | false =>
      rw [if_neg Bool.false_ne_true] at z ⊢
      exact ih _ _ z
end
end LV
namespace LV
open PySem PySem.Spec L2
open PySem.W (KeepsBut AllAlike Sortable dataKind SortsAt EachIs KeyedOut dataLe sortingHeap copyHeap sorted_of_sort keyH_end sortVals keyedOut_each)
open PyProof.Rows (seqObj ksk_rest ksk_tree ksk_end ksk_fold)
end LV
namespace LV
open PySem PySem.Spec L2
section
variable {M : Md} {F H F' H' : Hp} {vs : List V} {as : List Val} {v : V} {a : Val}
theorem Rel.tail {H0 : Hp} (R : Rel M (ctN H0) F H (sV (v :: vs)) (eV (a :: as))) : Rel M (ctN H0) F H (sV vs) (eV as) := by
  have g : ∀ {k : Nat} {b : Val}, (eV as)[k]? = some (some b) → (eV (a :: as))[k + 1]? = some (some b) := fun {k b} h => h
  have gs : ∀ {k : Nat} {u : V}, (sV (v :: vs))[k + 1]? = some (some u) → (sV vs)[k]? = some (some u) := fun {k u} h => h
  refine ⟨R.sub, by have := R.len; unfold eV sV at this ⊢; simpa using this, fun k d h => ?_, fun k o h => ?_, fun k b C ks ds h => ?_, fun j k o u p h1 h2 h3 h4 => ?_, fun _ h => (nomatch h), fun _ _ h => (nomatch h), fun _ _ _ _ _ _ => rfl, fun k o b h hb => R.frN (k + 1) o b (g h) hb, R.oldN⟩
  · obtain ⟨u, h1, h2⟩ := R.fz (k + 1) d (g h); exact ⟨u, gs h1, h2⟩
  · obtain ⟨p, h1, h2⟩ := R.ow (k + 1) o (g h); exact ⟨p, gs h1, h2⟩
  · obtain ⟨_, _, _, z, _⟩ := R.ex (k + 1) b C ks ds (g h); exact z.elim
  · have := R.sep (j + 1) (k + 1) o u p (g h1) (g h2) h3 h4; omega
end
end LV
namespace LV
open PySem PySem.Spec L2
theorem RoomG.make {k : Nat} {A : Around} (r : RoomG (k + 1) A) (C : Addr) (us : List Value) (kw : List (Str × Value)) : RoomG k (A.under (.builtin "type.__call__" ⟨.ref C :: us, kw⟩)) :=
  ⟨r.rm.make C us kw, by
    have := r.gd
    first | exact this | (simp [Around.under, Code.weight, Code.isCreation, Code.isGuard, Code.isCaller, Code.frames, Code.isFrame, guardIds]; exact this)⟩
section
variable {X : Cx} {c : Ct} {W : WX} {e o : Expr} {es : List Expr} {w wo : EW} {wl : AW} {pos p apos : Pos} {x m C : Str} {k j : Nat} {S : FSpec} {tbl : List (Str × FSpec)}
def wMake (C : Str) (S : FSpec) (wl : AW) : EW := fun env Q E => wl env (fun rs e => ∃ args, valL e rs = some args ∧ (slotsOf rs).Nodup ∧ S (.ow (.ins C [] []) :: args) (fun r args' => ∃ o as', r = .fz .non ∧ args' = .ow o :: as' ∧ backOk args as' = true ∧ Q (.ow o) (putL e rs as'))
  (fun x args' => ∃ a0 as', args' = a0 :: as' ∧ backOk args as' = true ∧ E x (putL e rs as'))) E
theorem Mono.make (mS : MonoF S) (ml : MonoA wl) : Mono (wMake C S wl) := ⟨fun hQ hE h => ml.mo (fun rs e ⟨args, l, n, q⟩ => ⟨args, l, n, mS.mo (fun _ _ ⟨o, as', a, b, d, z⟩ => ⟨o, as', a, b, d, hQ _ _ z⟩) (fun _ _ ⟨a0, as', a, b, z⟩ => ⟨a0, as', a, b, hE _ _ z⟩) q⟩) hE h⟩
end
end LV
namespace LV
open PySem PySem.Spec L2
section
variable {X : Cx} {c : Ct} {W : WX} {a b e : Expr} {es : List Expr} {w wa wb : EW} {wl : AW} {pos p p2 : Pos} {m C x : Str} {k j : Nat} {S : FSpec} {tbl : List (Str × FSpec)}
/-- an own method's run within an operator: what stands ready -/
structure OpRdy (X : Cx) (W : WX) (m : Str) (σ : L2.St) (j : Nat) (q : Addr) (vs : List V) (H : Hp) (Q : VK) : Prop where
  ex : ∃ cc dx fv f fd ps k S, H q = some (.ins cc dx fv) ∧ Cls X.K cc ∧ Meth X.K cc m f ∧ k ≤ j ∧ FnG X.prog X.w X.K X.mg X.base k f fd ps (toSp (mdX X) S) ∧ Binds X.K fd ps [] ∧ toSp (mdX X) S (.ref q :: vs) H Q (WE W σ)
theorem OpRdy.run {σ : L2.St} {q : Addr} {vs : List V} {us : List Value} {H : Hp} {Q : VK} {pins : List (Addr × Obj)} {s : Shared} (O : OpRdy X W m σ j q vs H Q) (tk : Takes X W) (hr : RoomG j X.A) (I : L2.Inv X pins σ H s) (r : Vals vs us) :
    ∃ cc f ox od, PySem.W.InstAt s.heap q ox cc (some od) ∧ PySem.W.findIn X.K (.ref cc) m = some (some (.ref f)) ∧ PySem.W.isFn X.K (.ref f) = true ∧ wpAny (model X.prog X.w) X.A (call (.ref f) (.ref q :: us)) (EP X pins σ Q) X.xe s := by
  obtain ⟨cc, dx, fv, f, fd, ps, k, S, h1, cl, hm, hk, Fn, hb, sp⟩ := O.ex
  obtain ⟨mA, J, _⟩ := ins_get I.hok h1
  obtain ⟨od, J, _⟩ := J.look
  exact ⟨cc, f, _, od, J, hm.at_, hm.fn, run_fnG (us := .ref q :: us) (vs := .ref q :: vs) (E := WE W) Fn (hr.mono hk) hb (passAt tk σ) I (.cons rfl r) sp⟩
end
end LV
namespace LV
open PySem PySem.Spec L2
section
variable {X : Cx} {c : Ct} {W : WX} {a b e : Expr} {es : List Expr} {w wa wb : EW} {wl : AW} {pos p p1 p2 apos : Pos} {m C x T : Str} {k j : Nat} {S : FSpec} {tbl : List (Str × FSpec)} {Cs : List (Str × Bool)}
theorem lookup_mem {α : Type} {C : Str} {b : α} : ∀ {l : List (Str × α)}, l.lookup C = some b → (C, b) ∈ l
  | [], h => nomatch h
  | (k, v) :: l, h => by
    unfold List.lookup at h
    split at h
    · rename_i z; cases h; rw [beq_iff_eq.mp z]; exact List.mem_cons_self
    · exact List.mem_cons_of_mem _ (lookup_mem h)
end
end LV
namespace LV
open PySem PySem.Spec PySem.W L2
section
variable {P : Program} {w : World} {K : Frag} {mg : Str → Option Value} {base h : Heap} {C m qual : Str} {st : Stmt} {ps N : List Str} {c f : Addr} {fd : FuncData} {k : Nat} {S : FSpec} {b : SW}
variable {oc : Value} {od an : Option Addr} {osl : Array (Option Value)} {kV doc pm cdv ct : Value}
/-- isinstance's answer for one class against another -/
theorem kit_sub {t : Value} {b : Bool} (ic : isClsIn K c = true) (ty : typeIn K (.ref c) = some (.type "type")) (s : subIn K t (.ref c) = some b) (ht : t = .ref c → b = true) : kitOne K t (.ref c) = some b := by
  unfold kitOne
  by_cases e : t = .ref c
  · rw [if_pos (beq_iff_eq.mpr e), ht e]
  · rw [if_neg (by simpa using e)]
    unfold kitCls
    unfold isClsIn at ic
    show (if ((clsIn K c).isSome && typeIn K (.ref c) == some (.type "type")) = true then subIn K t (.ref c) else none) = some b
    rw [ic, ty, if_pos (by decide +kernel)]
    exact s
end
/-- a name that an inner comprehension takes from the outer one -/
def freeB (scope sc : Scope) : Bool := scope.names.all fun y => y.2 != .free || (sc.names.lookup y.1 == some .cell || sc.names.lookup y.1 == some .free)
theorem free_of {scope sc : Scope} (h : freeB scope sc = true) : ∀ y ∈ scope.names, y.2 = .free → sc.names.lookup y.1 = some .cell ∨ sc.names.lookup y.1 = some .free := fun y hy e => by
  have := List.all_eq_true.mp h y hy
  rw [e] at this
  rcases Bool.or_eq_true_iff.mp this with z | z
  · exact nomatch (show false = true from z)
  · exact (Bool.or_eq_true_iff.mp z).imp (fun z => beq_iff_eq.mp z) fun z => beq_iff_eq.mp z
end LV
set_option maxHeartbeats 400000
namespace LV
open PySem PySem.Spec PyProof.Rows L2
def wPin (i : Nat) (w : EW) : EW := fun env Q E => (∃ o, env[i]? = some (some (.ow o))) ∧ w env Q E
theorem Mono.pin {i : Nat} {w : EW} (m : Mono w) : Mono (wPin i w) := ⟨fun hQ hE ⟨a, q⟩ => ⟨a, m.mo hQ hE q⟩⟩
end LV
namespace LV
open PySem PySem.Spec L2
end LV
set_option maxHeartbeats 1000000
namespace LV
open PySem PySem.Spec L2
end LV
namespace LV
open PySem PySem.Spec PySem.W L2
end LV
namespace LV
open PySem PySem.Spec L2
end LV
set_option maxHeartbeats 400000
namespace LV
open PySem PySem.Spec L2
def wJoin (wo we : EW) : EW := fun env Q E => wFz wo env (fun r e1 => ∃ a, r = .fz (.str a) ∧ wFz we e1 (fun r2 e2 => ∃ ys : List Str, look e2 r2 = some (.lst (ys.map D.str)) ∧ (ys.map (·.length)).sum + ys.length * a.length ≤ 16777216 ∧ Q (.fz (.str (Txt.join a ys))) e2) E) E
theorem Mono.join {wo we : EW} (mo : Mono wo) (me : Mono we) : Mono (wJoin wo we) := ⟨fun hQ hE h => mo.fz.mo (fun r e1 ⟨a, b, q⟩ => ⟨a, b, me.fz.mo (fun r2 e2 ⟨ys, l, s, z⟩ => ⟨ys, l, s, hQ _ _ z⟩) hE q⟩) hE h⟩
section
variable {X : Cx} {c : Ct} {W : WX} {o e : Expr} {wo we : EW} {apos pos : Pos}
theorem se_join (ho : SE X c W o wo) (he : SE X c W e we) (hs : starEach [e] X.env = [(false, eval e X.env)] := by rfl) (hbase : attributeBase o "join" X.env (eval o X.env) = eval o X.env := by rfl) (hline : (apos.endLine == pos.line) = true := by rfl) :
    SE X c W (.Call (.Attribute o "join" apos) [e] [] pos) (wJoin wo we) := by
  refine ⟨PE.imp (pe_join ho.pe he.pe hs hbase hline) fun σ H Q q => ?_, .join ho.mo he.mo⟩
  obtain ⟨F, env, R, q⟩ := q
  refine opd ho.mo R q fun r e1 v F1 H1 R1 ev1 ok1 ⟨a, hr, z⟩ => ?_
  subst hr
  have hv : v = .str a := by cases ok1; rfl
  subst hv
  refine ⟨⟨a, rfl⟩, ?_⟩
  refine opd he.mo R1 (he.mo.fz.mo (fun _ _ z => z) (fun _ _ z => XPost.step ev1 z) z) fun r2 e2 y F2 H2 R2 ev2 ok2 ⟨ys, l, hs, z⟩ => ?_
  have vw := ok2.vw R2 l
  obtain ⟨p, rfl, hp⟩ := vw.strs
  exact ⟨a, p, ys, rfl, rfl, .inl hp, hs, z (.str _) F2 H2 R2 (ev1.trans ev2) (.str _)⟩
end
end LV
namespace LV
open PySem PySem.Spec L2
end LV
namespace LV
open PySem PySem.Spec L2
end LV
set_option maxHeartbeats 1000000
namespace LV
open PySem PySem.Spec L2
end LV
namespace LV
open PySem PySem.Spec L2
end LV
set_option maxHeartbeats 400000
namespace LV
open PySem PySem.Spec L2
end LV
set_option maxHeartbeats 1000000
namespace LV
open PySem PySem.Spec PySem.W L2
end LV
namespace LV
open PySem PySem.Spec PySem.W L2
end LV
namespace LV
open PySem PySem.Spec L2
end LV
namespace LV
open PySem PySem.Spec L2
end LV
namespace LV
open PySem PySem.Spec L2
def wPar (i j : Nat) (wl : AW) : SW := fun K env => wl env (fun rs e => ∃ d1 d2 e2, frzL e rs = some ([d1, d2], e2) ∧ K.nx ((e2.set i (some (.fz d1))).set j (some (.fz d2)))) K.ex
section
variable {X : Cx} {c : Ct} {W : WX} {a b : Expr} {wl : AW} {i j : Nat} {x y : Str} {px py pt pt2 pos : Pos} {kt k2 : Nat}
theorem MonoS.par (m : MonoA wl) : MonoS (wPar i j wl) := ⟨fun k h => m.mo (fun _ _ ⟨d1, d2, e2, f, z⟩ => ⟨d1, d2, e2, f, k.nx _ z⟩) (fun _ _ z => k.ex _ _ z) h⟩
end
end LV
namespace LV
open PySem PySem.Spec L2
end LV
namespace LV
open PySem PySem.Spec L2
end LV
namespace LV
open PySem PySem.Spec L2
/-- what is known of the dict that d names -/
def XdAt (H : Hp) : Option Addr → Prop
  | none => True
  | some dd => ∃ fv, H dd = some (.xd fv)
def rIsX (K : PySem.W.Frag) (a : Addr) (cls : Value) (d : Option Addr) : List V → Hp → VK → Prop := fun xs H Q => ∃ (D : Addr) (c : V) (cv : Value) (b : Bool), cls = .ref D ∧ ExcC K D ∧ XdAt H d ∧ xs = [.ref a, c] ∧ (∀ u, RelV c u → u = cv) ∧ PySem.W.kitOne K (.ref D) cv = some b ∧ Q (.bl b) H
theorem call_isX {X : Cx} {a : Addr} {oe : Obj} {cls : Value} {d : Option Addr} {pn : List (Addr × Obj)} (hz : Zc cls d oe) (hf : ∃ vs, oe.data = .fields vs) : CallR (X.suite a ((a, oe) :: pn)) (.builtin "isinstance") (rIsX X.K a cls d) := by
  intro pins s σ H xs us Q I r h
  obtain ⟨D, c, cv, b, rfl, C, hd, rfl, hcv, e, q⟩ := h
  cases r with
  | cons rx rr =>
    cases rr with
    | cons rt rr =>
      cases rr
      cases rx
      have ec := hcv _ rt
      subst ec
      obtain ⟨hget, _⟩ := I.pin (a, oe) (List.mem_append.mpr (.inl List.mem_cons_self))
      obtain ⟨vs, hv⟩ := hf
      have hcl : (PySem.W.clsIn X.K D).isSome = true := by
        obtain ⟨cd, hc, _⟩ := PySem.W.any_some C.hd
        rw [hc]; rfl
      have J : ∃ od, PySem.W.InstAt s.heap a oe D od := by
        cases d with
        | none => exact ⟨none, hget, hz.1, by unfold PySem.W.notCls; rw [hv] <;> rfl, by rw [hz.2]; trivial⟩
        | some dd =>
          obtain ⟨fv, hfv⟩ := hd
          obtain ⟨mA, hns, hr⟩ : ObjOk X.prog X.w H s.heap dd (.xd fv) := I.hok dd _ hfv
          obtain ⟨od, ho, hl⟩ := lookIn_ns hns
          exact ⟨some od, hget, hz.1, by unfold PySem.W.notCls; rw [hv] <;> rfl, by rw [hz.2]; exact ho⟩
      obtain ⟨od, J⟩ := J
      exact PySem.W.kia_one (PySem.W.kitx_exc hcl C.hg C.hk C.hs C.ha C.hn C.ht C.hm) I.kIn J e (fun z => nomatch z) fun tk => ⟨.bl b, H, I.kept (t' := tk) fun _ _ z => z, rfl, q⟩
/-- the class that is asked for -/
inductive IsTo (mg : Str → Option Value) (x : Str) : V → Value → Prop
  | own {cc} : mg x = some (.ref cc) → IsTo mg x (.ref cc) (.ref cc)
  | bltn {T : String} : mg x = none → bootBuiltins x = some (.type T) → x ≠ "__name__" → IsTo mg x (.ty T) (.type T)
/-- what it says of each own class -/
structure IsxF (K : PySem.W.Frag) (mg : Str → Option Value) (cv : Value) (Cs : List (Str × Bool)) : Prop where
  ex : ∀ q ∈ Cs, ∃ D, mg q.1 = some (.ref D) ∧ ExcC K D ∧ PySem.W.kitOne K (.ref D) cv = some q.2
def wIsX (i : Nat) (Cs : List (Str × Bool)) : EW := fun env Q _ => match env[i]? with
  | some (some (.ex a C ks vs)) => ∃ b, Cs.lookup C = some b ∧ Q (.fz (.bl b)) env
  | _ => False
theorem Mono.isX {i : Nat} {Cs : List (Str × Bool)} : Mono (wIsX i Cs) := ⟨fun {env Q Q' E E'} hQ hE h => by
  unfold wIsX at h ⊢
  split at h
  · obtain ⟨b, e, q⟩ := h; exact ⟨b, e, hQ _ _ q⟩
  · exact h.elim⟩
section
variable {X : Cx} {a : Addr} {oe : Obj} {cls : Value} {d : Option Addr} {pn : List (Addr × Obj)} {i : Nat} {p px p2 pos : Pos} {nm x : Str} {c' : Ct} {Cs : List (Str × Bool)} {v : V} {cv : Value}
theorem lookup_memX {α : Type} {C : Str} {b : α} : ∀ {l : List (Str × α)}, l.lookup C = some b → (C, b) ∈ l
  | [], h => nomatch h
  | (k, v) :: l, h => by
    unfold List.lookup at h
    split at h
    · rename_i z; cases h; rw [beq_iff_eq.mp z]; exact List.mem_cons_self
    · exact List.mem_cons_of_mem _ (lookup_memX h)
theorem se_isX (hxc : c'.xc = fun a' c' d' => a' = a ∧ c' = cls ∧ d' = d) (hz : Zc cls d oe) (hf : ∃ vs, oe.data = .fields vs) (ht : IsTo X.mg x v cv) (hF : IsxF X.K X.mg cv Cs) (hg : Gl X "isinstance") (hm : X.mg "isinstance" = none) (hgx : Gl X x)
    (hN : X.N[i]? = some nm) (hv : Vis X.env.scope nm) (hdb : (nm == ("__debug__" : Str)) = false := by decide) (hcd : (nm == ("__classdict__" : Str)) = false := by decide) (hdx : (x == ("__debug__" : Str)) = false := by decide)
    (hb : bootBuiltins "isinstance" = some (.builtin "isinstance") := by with_unfolding_all rfl)
    (hs1 : starEach [.Name nm px, .Name x p2] X.env = (false, eval (.Name nm px) X.env) :: starEach [.Name x p2] X.env := by rfl) (hs2 : starEach [.Name x p2] X.env = (false, eval (.Name x p2) X.env) :: starEach [] X.env := by rfl) (hpl : (backTo pos (starEach [.Name x p2] X.env)).any (·.1) = false := by rfl) :
    SE (X.suite a ((a, oe) :: pn)) c' W0 (.Call (.Name "isinstance" p) [.Name nm px, .Name x p2] [] pos) (wIsX i Cs) := by
  have hto : PE (X.suite a ((a, oe) :: pn)) (.Name x p2) (tC v) := by
    cases ht with
    | own h => exact pe_glob (X := X.suite a ((a, oe) :: pn)) (v := .ref _) hgx h rfl hdx
    | bltn h hb hn => exact pe_bltn (X := X.suite a ((a, oe) :: pn)) (v := .ty _) hgx h hb rfl hn hdx
  have hrel : ∀ u, RelV v u → u = cv := by
    cases ht with
    | own h => exact fun u hu => hu
    | bltn h hb hn => exact fun u hu => hu
  refine ⟨PE.imp (pe_callB (X := X.suite a ((a, oe) :: pn)) (call_isX hz hf) hg hm hb (pa_cons (pe_var (X := X.suite a ((a, oe) :: pn)) hN hv hdb hcd) (pa_cons hto pa_nil hs2) hs1) (by decide) (by decide) hs1 hpl) fun σ H Q h => ?_, .isX⟩
  obtain ⟨F, env, R, h⟩ := h
  unfold wIsX at h
  split at h
  · rename_i a' C' ks vs hex
    obtain ⟨b, hl, q⟩ := h
    obtain ⟨h1, cl, d', h2, C2, h3, h4, h5⟩ := R.ex i a' C' ks vs hex
    rw [hxc] at h2
    obtain ⟨rfl, rfl, rfl⟩ := h2
    have h3' : X.mg C' = some (.ref C2) := h3
    obtain ⟨D, hD, eC, ek⟩ := hF.ex _ (lookup_memX hl)
    have e2 : D = C2 := by
      have := hD.symm.trans h3'
      injection this with e; injection e
    subst e2
    refine ⟨_, h1, D, v, cv, b, h4, eC, ?_, rfl, hrel, ek, q (.bl b) F H R Evo.refl (.bl b)⟩
    rcases h5 with ⟨rfl, _, _⟩ | ⟨dd, fv, rfl, e2, _, _⟩
    · trivial
    · exact ⟨fv, R.sub _ _ e2⟩
  · exact h.elim
/-- isinstance(e, x): x and what it says of each own error -/
structure XisF (K : PySem.W.Frag) (mg : Str → Option Value) (x : Str) (Cs : List (Str × Bool)) : Prop where
  ex : ∃ v cv, IsTo mg x v cv ∧ IsxF K mg cv Cs
theorem se_isXV (T : XisF X.K X.mg x Cs) (hxc : c'.xc = fun a' c' d' => a' = a ∧ c' = cls ∧ d' = d) (hz : Zc cls d oe) (hf : ∃ vs, oe.data = .fields vs) (hg : Gl X "isinstance") (hm : X.mg "isinstance" = none) (hgx : Gl X x)
    (hN : X.N[i]? = some nm) (hv : Vis X.env.scope nm) (hdb : (nm == ("__debug__" : Str)) = false := by decide) (hcd : (nm == ("__classdict__" : Str)) = false := by decide) (hdx : (x == ("__debug__" : Str)) = false := by decide)
    (hb : bootBuiltins "isinstance" = some (.builtin "isinstance") := by with_unfolding_all rfl)
    (hs1 : starEach [.Name nm px, .Name x p2] X.env = (false, eval (.Name nm px) X.env) :: starEach [.Name x p2] X.env := by rfl) (hs2 : starEach [.Name x p2] X.env = (false, eval (.Name x p2) X.env) :: starEach [] X.env := by rfl) (hpl : (backTo pos (starEach [.Name x p2] X.env)).any (·.1) = false := by rfl) :
    SE (X.suite a ((a, oe) :: pn)) c' W0 (.Call (.Name "isinstance" p) [.Name nm px, .Name x p2] [] pos) (wIsX i Cs) :=
  let ⟨_, _, h1, h2⟩ := T.ex
  se_isX hxc hz hf h1 h2 hg hm hgx hN hv hdb hcd hdx hb hs1 hs2 hpl
end
end LV
namespace LV
open PySem PySem.Spec PySem.W PyProof.Rows L2
section
variable {K : Frag} {h : Heap} {mg : Str → Option Value} {C x : Str} {D cc : Addr} {cv : Value} {b : Bool} {Cs : List (Str × Bool)}
theorem kit_own (ic : isClsIn K cc = true) (ty : typeIn K (.ref cc) = some (.type "type")) (s : subIn K (.ref D) (.ref cc) = some b) (sc : subIn K (.ref cc) (.ref cc) = some true) : kitOne K (.ref D) (.ref cc) = some b := by
  refine kit_sub ic ty s fun e => ?_
  cases e
  rw [sc] at s; cases s; rfl
theorem kit_bltn {T : String} (km : kitMeta T = true) (s : subIn K (.ref D) (.type T) = some b) : kitOne K (.ref D) (.type T) = some b := by
  show (if kitMeta T = true then subIn K (.ref D) (.type T) else none) = some b
  rw [if_pos km]; exact s
theorem isx_nil : IsxF K mg cv [] := ⟨fun _ h => nomatch h⟩
theorem isx_cons (X : K.In h) (G : h.Ns mainGlobals mg) (aC : nsIn K mainGlobals C = some (some (.ref D))) (hg : findIn K (.ref D) "__getattribute__" = some (some (.builtin "BaseException.__getattribute__"))) (hk : findIn K (.ref D) "__getattr__" = some none) (hs : subIn K (.ref D) (.type "BaseException") = some true) (hd : hasDictIn K D = true)
    (ha : findIn K (.ref D) "__class__" = some (some (.builtin "object.__class__"))) (hn : specialIn K (.builtin "object.__class__") "__get__" = some (some (.builtin "getset_descriptor.__get__"))) (ht : takesIn K (.builtin "object.__class__") = some true) (hm : mroIn K D (.type "object") = some true) (kt : kitOne K (.ref D) cv = some b) (t : IsxF K mg cv Cs) : IsxF K mg cv ((C, b) :: Cs) := ⟨fun q hq => by
  rcases List.mem_cons.mp hq with z | z
  · subst z; exact ⟨D, mg_of X G aC, ⟨hg, hk, hs, hd, ha, hn, ht, hm⟩, kt⟩
  · exact t.ex q z⟩
theorem xis_own (X : K.In h) (G : h.Ns mainGlobals mg) (aC : nsIn K mainGlobals x = some (some (.ref cc))) (t : IsxF K mg (.ref cc) Cs) : XisF K mg x Cs := ⟨_, _, .own (mg_of X G aC), t⟩
theorem xis_bltn {T : String} (m : mg x = none) (bb : bootBuiltins x = some (.type T)) (n : x ≠ "__name__") (t : IsxF K mg (.type T) Cs) : XisF K mg x Cs := ⟨_, _, .bltn m bb n, t⟩
end
end LV
namespace LV
open PySem PySem.Spec L2
def Ct.cut (c : Ct) (n : Nat) : Ct := { c with pn := c.pn.filter fun i => decide (i < n) }
end LV
namespace LV
open PySem PySem.Spec L2
end LV
set_option maxHeartbeats 400000
namespace LV
open PySem PySem.Spec PyProof.Rows L2
def wPinS (i : Nat) (s : SW) : SW := fun K env => (∃ o, env[i]? = some (some (.ow o))) ∧ s K env
theorem MonoS.pin {i : Nat} {s : SW} (m : MonoS s) : MonoS (wPinS i s) := ⟨fun k ⟨a, q⟩ => ⟨a, m.mo k q⟩⟩
end LV
set_option maxHeartbeats 1000000
namespace LV
open PySem PySem.Spec PyProof.Rows L2
def isBV (b : Bool) : V → Bool
  | .bl a => a == b
  | _ => false
def isB (b : Bool) : D → Bool
  | .bl a => a == b
  | _ => false
section
variable {X : Cx}
theorem notSame_B {M : Model} {A : Around} {E : Value → Shared → Prop} {s : Shared} {x : V} {u : Value} {b : Bool} {R : Value → Shared → Prop} (r : RelV x u) (q : R (.bool (!isBV b x)) s) : wpAny M A (compareOp .IsNot u (.bool b)) R E s := by
  cases x with
  | bl a =>
    cases (show u = Value.bool a from r)
    by_cases e : a = b
    · subst e
      refine wpAny_isNot_self rfl ?_
      rwa [show isBV a (.bl a) = true from beq_self_eq_true a] at q
    · refine wpAny_isNot_other rfl (fun z => e (Value.bool.inj z)) ?_
      rwa [show isBV b (.bl a) = false from beq_eq_false_iff_ne.mpr e] at q
  | ref a => cases r; exact wpAny_isNot_other rfl (fun z => nomatch z) q
  | non => cases r; exact wpAny_isNot_other rfl (fun z => nomatch z) q
  | int i => obtain ⟨t, rfl⟩ := r; exact wpAny_isNot_other rfl (fun z => nomatch z) q
  | str x => obtain ⟨t, rfl⟩ := r; exact wpAny_isNot_other rfl (fun z => nomatch z) q
  | byt x => obtain ⟨t, rfl⟩ := r; exact wpAny_isNot_other rfl (fun z => nomatch z) q
  | flt x => obtain ⟨t, rfl⟩ := r; exact wpAny_isNot_other rfl (fun z => nomatch z) q
  | ty n => cases r; exact wpAny_isNot_other rfl (fun z => nomatch z) q
theorem op_isnB : OpR X (compareOp .IsNot) (fun x y H Q => ∃ b, y = .bl b ∧ Q (.bl (!isBV b x)) H) := by
  intro pins s σ H x y v u Q I rx ry h
  obtain ⟨b, rfl, q⟩ := h
  cases (show u = Value.bool b from ry)
  exact notSame_B rx ⟨.bl _, H, I, rfl, q⟩
theorem isB_vw {M : Md} {F H : Hp} {v : V} {d : D} {b : Bool} (h : Vw M F H v d) : isBV b v = isB b d := by
  cases d with
  | non => cases h; rfl
  | bl b => cases h; rfl
  | int b => cases h; rfl
  | str b => cases h; rfl
  | tup ds => obtain ⟨a, xs, rfl, _⟩ := h; rfl
  | lst ds => obtain ⟨a, xs, rfl, _⟩ := h; rfl
  | scr ds => obtain ⟨a, rfl, _⟩ := h; rfl
  | dct ks ds => obtain ⟨a, rfl, _⟩ := h; rfl
  | ins C ks ds => obtain ⟨a, rfl, _⟩ := h; rfl
  | cls C => obtain ⟨a, rfl, _⟩ := h; rfl
  | ptr a => cases (show v = .ref a from h); rfl
  | exn C ks ds => obtain ⟨a, c, rfl, _⟩ := h; rfl
  | tpn C => obtain ⟨a, o, xs, rfl, _⟩ := h; rfl
def gIsNotB : G2 := fun a b Q => ∃ k, b = .bl k ∧ Q (.fz (.bl (!isB k a)))
theorem vr_isNotB : VR2 X (compareOp .IsNot) gIsNotB :=
  .of op_isnB ⟨fun h ⟨k, a, q⟩ => ⟨k, a, h _ q⟩⟩ fun F da db x y H Qv sm vx vy ⟨k, h1, q⟩ => by
    subst h1; exact ⟨k, vy, by rw [isB_vw vx]; exact q.here sm (.bl _)⟩
end
end LV
namespace LV
open PySem PySem.Spec L2
/-- the class C has instances whose field f is read as it stands -/
def XfA (K : PySem.W.Frag) (mg : Str → Option Value) (C f : Str) : Prop := ∃ D, mg C = some (.ref D) ∧ XfC K D ∧ PySem.W.findIn K (.ref D) f = some none
theorem XCls.xfa {P : Program} {w : World} {K : PySem.W.Frag} {mg : Str → Option Value} {base : Heap} {C f : Str} (T : XCls P w K mg base C f) : XfA K mg C f :=
  let ⟨D, _, _, _, h1, ⟨_, h3, h4⟩, _⟩ := T.ex
  ⟨D, h1, h3, h4⟩
section
variable {X : Cx} {c : Ct} {W : WX} {pos pos' np px : Pos} {x n nm : Str} {i : Nat} {body suite : List Stmt} {b₀ : Stmt} {wb ws : SW} {l : List (Str × Bool)} {Cs : List Str}
theorem ss_tryB (T : ∃ C, X.mg x = some (.ref C)) (hs : X.stack = X.env :: X.outer) (hf : X.env.frame = some X.env.locals) (hN : X.N.Nodup) (hi : X.N[i]? = some n) (hln : X.env.kindOf n = some .local) (hg : Gl X x) (tk : Takes X W) (po : PassesOwn (model X.prog X.w) X.A X.env X.xe)
    (hip : i ∉ c.pn) (hl : ∀ p ∈ l, Exm X.K X.mg p.1 x p.2)
    (hb : ∀ (W' : WX) (pn : List (Addr × Obj)) (xe : Value → Shared → Prop), Takes (X.tr pn xe) W' → PassesOwn (model X.prog X.w) X.A X.env xe → SSs (X.tr pn xe) c W' body wb)
    (hsu : ∀ (a : Addr) (oe : Obj) (cls : Value) (d : Option Addr) (pn : List (Addr × Obj)), Zc cls d oe → (∃ vs, oe.data = .fields vs) → SSs (X.suite a ((a, oe) :: pn)) { c with xc := fun a' c' d' => a' = a ∧ c' = cls ∧ d' = d } W0 (b₀ :: suite) ws) (hdb : (x == ("__debug__" : Str)) = false := by decide) :
    SS X c W (.Try body [.ExceptHandler (some (.Name x np)) (some n) (b₀ :: suite) pos'] [] [] pos) (wTryAs wb (ctb l) i ws) :=
  let ⟨C, h1⟩ := T
  ss_tryAs hs hf hN hi hln (cv := .ref C) ⟨hg, hdb, .inl h1⟩ tk hip (catches_of h1 hl) (hb W0 [] X.xe tk0 po).mo (hsu 0 { cls := .ref C, data := .fields #[] } (.ref C) none [] ⟨rfl, rfl⟩ ⟨_, rfl⟩).mo hb hsu
end
end LV
namespace LV
open PySem PySem.Spec L2
end LV
set_option maxHeartbeats 400000
namespace LV
open PySem PySem.Spec L2
end LV
set_option maxHeartbeats 1000000
namespace LV
open PySem PySem.Spec PySem.W L2
end LV
namespace LV
open PySem PySem.Spec L2
end LV
set_option maxHeartbeats 400000
namespace LV
open PySem PySem.Spec L2
end LV
set_option maxHeartbeats 4000000
namespace LV
open PySem PySem.Spec PySem.W L2
end LV
set_option maxHeartbeats 2000000
namespace LV
open PySem PySem.Spec PySem.W L2
end LV
set_option maxHeartbeats 1000000
namespace LV
open PySem PySem.Spec L2
theorem op_mulX {X : Cx} : OpR X (binaryOp .Mult) (fun x y H Q => ∃ s k, x = .str s ∧ y = .int k ∧ MulOk s k ∧ Q (.str (Txt.mul s k)) H) := by
  intro pins s σ H x y v u Q I rx ry h
  obtain ⟨i, j, rfl, rfl, hz, q⟩ := h
  obtain ⟨t, rfl⟩ := rx
  obtain ⟨t', rfl⟩ := ry
  exact SB.mul hz (fun t' tk => ⟨.str (Txt.mul i j), H, I.tok _, ⟨_, rfl⟩, q⟩)
end LV
set_option maxHeartbeats 400000
namespace LV
open PySem PySem.Spec L2
end LV
namespace LV
open PySem PySem.Spec L2
def NI.pt : NI → D
  | .d x => x
  | .l q _ => .ptr q
  | .t q _ _ => .ptr q
section
variable {M : Md} {c : Ct} {F H F' H' : Hp} {σ : St} {env : En}
theorem NRepL.ptr : ∀ {vs : List V} {xs : List NI}, NRepL M F H vs xs → RepL M F vs (xs.map NI.pt)
  | _, _, .nil => .nil
  | _, _, .d h tl => .cons h (NRepL.ptr tl)
  | _, _, .l _ _ _ tl => .cons .ptr (NRepL.ptr tl)
  | _, _, .t _ _ tl => .cons .ptr (NRepL.ptr tl)
theorem NRepL.getD : ∀ {vs : List V} {xs : List NI} {k : Nat} {y : D}, NRepL M F H vs xs → xs[k]? = some (.d y) → ∃ v, vs[k]? = some v ∧ Rep M F v y
  | _, _, k, y, .nil, h => by simp at h
  | _, _, 0, y, .d r tl, h => by simp at h; subst h; exact ⟨_, rfl, r⟩
  | _, _, 0, y, .l f hh r tl, h => by simp at h
  | _, _, 0, y, .t f hh tl, h => by simp at h
  | _, _, k + 1, y, .d r tl, h => NRepL.getD (k := k) tl (by simpa using h)
  | _, _, k + 1, y, .l f hh r tl, h => NRepL.getD (k := k) tl (by simpa using h)
  | _, _, k + 1, y, .t f hh tl, h => NRepL.getD (k := k) tl (by simpa using h)
end
section
variable {X : Cx} {c : Ct} {W : WX} {e : Expr} {w : EW} {pos : Pos} {es : List Expr}
def wIxN (i k : Nat) : EW := fun env Q _ => ∃ xs d, env[i]? = some (some (.ow (.nst xs))) ∧ xs[k]? = some (.d d) ∧ Q (.fz d) env
theorem Mono.ixN {i k : Nat} : Mono (wIxN i k) := ⟨fun hQ _ ⟨xs, d, a, b, q⟩ => ⟨xs, d, a, b, hQ _ _ q⟩⟩
abbrev NAW := En → (List NI → En → Prop) → XW → Prop
structure MonoN (w : NAW) : Prop where
  mo : ∀ {env : En} {Q Q' : List NI → En → Prop} {E E' : XW}, (∀ r e, Q r e → Q' r e) → (∀ x e, E x e → E' x e) → w env Q E → w env Q' E'
variable {wl : NAW}
def wNst (wl : NAW) : EW := fun env Q E => wl env (fun xs e => xs.length ≤ sizeLine ∧ Q (.ow (.nst xs)) e) E
theorem Mono.nst (m : MonoN wl) : Mono (wNst wl) := ⟨fun hQ hE h => m.mo (fun xs e ⟨z, q⟩ => ⟨z, hQ _ _ q⟩) hE h⟩
end
end LV
namespace LV
open PySem PySem.Spec L2
end LV
set_option maxHeartbeats 1000000
namespace LV
open PySem PySem.Spec L2
/-- the message's parts fit -/
def okMsg (c1 c2 c3 s t : Str) : Prop := (Str.empty ++ c1).length ≤ sizeLine ∧ (Str.empty ++ c1 ++ s).length ≤ sizeLine ∧ (Str.empty ++ c1 ++ s ++ c2).length ≤ sizeLine ∧ (Str.empty ++ c1 ++ s ++ c2 ++ t).length ≤ sizeLine ∧ (Str.empty ++ c1 ++ s ++ c2 ++ t ++ c3).length ≤ sizeLine
def spX2 (C : Addr) (f g c1 c2 c3 : Str) : Sp := fun vs H Q _ => ∃ (a : Addr) (s : Str) (i : Int), vs = [.ref a, .str s, .int i] ∧ H a = some (exo a C none) ∧ s.length ≤ sizeLine ∧ i.natAbs.log2 < 1920 ∧ okMsg c1 c2 c3 s (toString i) ∧
  ∀ d, H d = none → d ≠ a → Q .non (upd (upd H d (exd d [(g, .int i), (f, .str s)])) a (exo a C (some d)))
theorem exc2 {P : Program} {w : World} {K : PySem.W.Frag} {mg : Str → Option Value} {base : Heap} {C fI : Addr} {name qual : Str} {params : Arguments} {body : List Stmt} {scope : Scope} {fd : FuncData} {p q f g c1 c2 c3 : Str} {CX : CXT} {j1 j2 j3 : Nat} {pl : Env → Sem Bool} {p0 p1 p2 p4 p5 p6 p7 p8 p9 p10 p11 p12 p13 p14 p15 p16 p17 p18 p19 p20 p21 : Pos} {ar : Arg}
    (G : LVX.ExcF P K C fI name qual params body scope fd) (S : LVX.SupScope ["self", p, q] ["self", p, q] scope) (hp : (params.posonlyargs ++ params.args).head? = some ar) (hself : ar.arg = "self")
    (hbody : body = [.Expr (.Call (.Attribute (.Call (.Name "super" p0) [] [] p1) "__init__" p2) [.JoinedStr [.Constant (.str c1) j1 p10, .FormattedValue (.Name p p11) (-1) none p12, .Constant (.str c2) j2 p13, .FormattedValue (.Name q p14) (-1) none p15, .Constant (.str c3) j3 p16] p17] [] p4) p5,
      .Assign [.Attribute (.Name "self" p6) f p7] (.Name p p8) p9, .Assign [.Attribute (.Name "self" p18) g p19] (.Name q p20) p21])
    (hno : PySem.W.findIn K (.ref C) f = some none) (hno2 : PySem.W.findIn K (.ref C) g = some none) (hpd : (p == ("__debug__" : Str)) = false) (hpc : (p == ("__classdict__" : Str)) = false) (hqd : (q == ("__debug__" : Str)) = false) (hqc : (q == ("__classdict__" : Str)) = false)
    (hev : SupEv p0 p1 p2 p4 (.JoinedStr [.Constant (.str c1) j1 p10, .FormattedValue (.Name p p11) (-1) none p12, .Constant (.str c2) j2 p13, .FormattedValue (.Name q p14) (-1) none p15, .Constant (.str c3) j3 p16] p17) pl)
    (hsw : SupSw p0 p1 p2 p4 p5 (.JoinedStr [.Constant (.str c1) j1 p10, .FormattedValue (.Name p p11) (-1) none p12, .Constant (.str c2) j2 p13, .FormattedValue (.Name q p14) (-1) none p15, .Constant (.str c3) j3 p16] p17)) : FnOk P w K mg base CX 1 fI fd ["self", p, q] (spX2 C f g c1 c2 c3) := by
  refine LVX.exc_init (hev := hev) (hsw := hsw) (k := 0) G S hp (by rw [hself]; rfl) hbody (fun vs H Q E ⟨a, s, i, h, _⟩ => by rw [h]; rfl) (fun cdv cc A outer s H vs Q E hr ⟨a, x, i, hvs, ha, hx, hi, hm, hq⟩ => ?_) (fun _ => rfl)
  subst hvs
  have e0 := S.par "self" (by simp)
  have e1 := S.par p (by simp)
  have e2 := S.par q (by simp)
  refine ⟨a, _, _, rfl, ha, pe_joined (.cons pe_str (.cons (pe_fmt (pe_var (i := 1) rfl (.inl e1) hpd hpc)) (.cons pe_str (.cons (pe_fmt (pe_var (i := 2) rfl (.inl e2) hqd hqc)) (.cons pe_str .nil))))),
    pss_cons (ps_ost (pe_var (i := 0) rfl (.inl e0)) (pe_var (i := 1) rfl (.inl e1) hpd hpc)) (pss_one (ps_ost (pe_var (i := 0) rfl (.inl e0)) (pe_var (i := 2) rfl (.inl e2) hqd hqc))), ?_⟩
  obtain ⟨m1, m2, m3, m4, m5⟩ := hm
  refine ⟨c1, rfl, m1, .str x, rfl, .inl ⟨x, rfl, hx, x, rfl, m2, c2, rfl, m3, .int i, rfl, .inr ⟨i, rfl, hi, toString i, rfl, m4, c3, rfl, m5, ⟨_, rfl⟩, ha, ?_⟩⟩⟩
  refine ⟨.str x, rfl, .ref a, rfl, a, C, rfl, G.T, hno, .inl ⟨ha, fun dx n ne => ?_⟩⟩
  refine ⟨.int i, rfl, .ref a, rfl, a, C, rfl, G.T, hno2, .inr ⟨dx, [(f, .str x)], upd_same, by rw [upd_ne ne, upd_same], by show 1 ≤ 900; decide, ?_⟩⟩
  have := hq dx n ne
  have eH : upd (upd (upd H dx (exd dx [(f, V.str x)])) a (exo a C (some dx))) dx (exd dx [(g, .int i), (f, .str x)]) = upd (upd H dx (exd dx [(g, .int i), (f, .str x)])) a (exo a C (some dx)) := by
    funext b
    by_cases hb1 : b = dx
    · rw [hb1, upd_same, upd_ne ne, upd_same]
    · rw [upd_ne hb1]
      by_cases hb2 : b = a
      · rw [hb2, upd_same, upd_same]
      · rw [upd_ne hb2, upd_ne hb1, upd_ne hb2, upd_ne hb1]
  show Q .non _
  rw [eH]
  exact this
structure XC2 (P : Program) (w : World) (K : PySem.W.Frag) (mg : Str → Option Value) (base : Heap) (Cn f g c1 c2 c3 : Str) : Prop where
  ex : ∃ (C fI : Addr) (fd : FuncData) (p q : Str), mg Cn = some (.ref C) ∧ OexC K C ∧ PySem.W.findIn K (.ref C) "__init__" = some (some (.ref fI)) ∧ PySem.W.typeIn K (.ref fI) = some (.type "function") ∧
    FnOk P w K mg base (L2.CX P w) 1 fI fd ["self", p, q] (spX2 C f g c1 c2 c3) ∧ Binds K fd ["self", p, q] []
end LV
namespace LV
open PySem PySem.Spec L2
def okMsg1 (c1 c2 s : Str) : Prop := (Str.empty ++ c1).length ≤ sizeLine ∧ (Str.empty ++ c1 ++ s).length ≤ sizeLine ∧ (Str.empty ++ c1 ++ s ++ c2).length ≤ sizeLine
def spX1F (C : Addr) (f c1 c2 : Str) : Sp := fun vs H Q _ => ∃ (a : Addr) (s : Str), vs = [.ref a, .str s] ∧ H a = some (exo a C none) ∧ s.length ≤ sizeLine ∧ okMsg1 c1 c2 s ∧
  ∀ d, H d = none → d ≠ a → Q .non (upd (upd H d (exd d [(f, .str s)])) a (exo a C (some d)))
theorem exc1F {P : Program} {w : World} {K : PySem.W.Frag} {mg : Str → Option Value} {base : Heap} {C fI : Addr} {name qual : Str} {params : Arguments} {body : List Stmt} {scope : Scope} {fd : FuncData} {p f c1 c2 : Str} {CX : CXT} {j1 j2 : Nat} {pl : Env → Sem Bool} {p0 p1 p2 p4 p5 p6 p7 p8 p9 p10 p11 p12 p13 p17 : Pos} {ar : Arg}
    (G : LVX.ExcF P K C fI name qual params body scope fd) (S : LVX.SupScope ["self", p] ["self", p] scope) (hp : (params.posonlyargs ++ params.args).head? = some ar) (hself : ar.arg = "self")
    (hbody : body = [.Expr (.Call (.Attribute (.Call (.Name "super" p0) [] [] p1) "__init__" p2) [.JoinedStr [.Constant (.str c1) j1 p10, .FormattedValue (.Name p p11) (-1) none p12, .Constant (.str c2) j2 p13] p17] [] p4) p5,
      .Assign [.Attribute (.Name "self" p6) f p7] (.Name p p8) p9])
    (hno : PySem.W.findIn K (.ref C) f = some none) (hpd : (p == ("__debug__" : Str)) = false) (hpc : (p == ("__classdict__" : Str)) = false)
    (hev : SupEv p0 p1 p2 p4 (.JoinedStr [.Constant (.str c1) j1 p10, .FormattedValue (.Name p p11) (-1) none p12, .Constant (.str c2) j2 p13] p17) pl)
    (hsw : SupSw p0 p1 p2 p4 p5 (.JoinedStr [.Constant (.str c1) j1 p10, .FormattedValue (.Name p p11) (-1) none p12, .Constant (.str c2) j2 p13] p17)) : FnOk P w K mg base CX 1 fI fd ["self", p] (spX1F C f c1 c2) := by
  refine LVX.exc_init (hev := hev) (hsw := hsw) (k := 0) G S hp (by rw [hself]; rfl) hbody (fun vs H Q E ⟨a, s, h, _⟩ => by rw [h]; rfl) (fun cdv cc A outer s H vs Q E hr ⟨a, x, hvs, ha, hx, hm, hq⟩ => ?_) (fun _ => rfl)
  subst hvs
  have e0 := S.par "self" (by simp)
  have e1 := S.par p (by simp)
  refine ⟨a, _, _, rfl, ha, pe_joined (.cons pe_str (.cons (pe_fmt (pe_var (i := 1) rfl (.inl e1) hpd hpc)) (.cons pe_str .nil))), pss_one (ps_ost (pe_var (i := 0) rfl (.inl e0)) (pe_var (i := 1) rfl (.inl e1) hpd hpc)), ?_⟩
  obtain ⟨m1, m2, m3⟩ := hm
  refine ⟨c1, rfl, m1, .str x, rfl, .inl ⟨x, rfl, hx, x, rfl, m2, c2, rfl, m3, ⟨_, rfl⟩, ha, ?_⟩⟩
  exact ⟨.str x, rfl, .ref a, rfl, a, C, rfl, G.T, hno, .inl ⟨ha, fun dx n ne => hq dx n ne⟩⟩
structure XC1F (P : Program) (w : World) (K : PySem.W.Frag) (mg : Str → Option Value) (base : Heap) (Cn f c1 c2 : Str) : Prop where
  ex : ∃ (C fI : Addr) (fd : FuncData) (p : Str), mg Cn = some (.ref C) ∧ OexC K C ∧ PySem.W.findIn K (.ref C) "__init__" = some (some (.ref fI)) ∧ PySem.W.typeIn K (.ref fI) = some (.type "function") ∧
    FnOk P w K mg base (L2.CX P w) 1 fI fd ["self", p] (spX1F C f c1 c2) ∧ Binds K fd ["self", p] []
end LV
namespace LV
open PySem PySem.Spec PySem.W L2
structure XCls2 (P : Program) (w : World) (K : PySem.W.Frag) (mg : Str → Option Value) (base : Heap) (Cn f g c1 c2 c3 : Str) : Prop where
  ex : ∃ (C fI : Addr) (fd : FuncData) (p q : Str), mg Cn = some (.ref C) ∧ (OexC K C ∧ XfC K C ∧ PySem.W.findIn K (.ref C) f = some none ∧ PySem.W.findIn K (.ref C) g = some none) ∧ PySem.W.findIn K (.ref C) "__init__" = some (some (.ref fI)) ∧ PySem.W.typeIn K (.ref fI) = some (.type "function") ∧
    FnOk P w K mg base (L2.CX P w) 1 fI fd ["self", p, q] (spX2 C f g c1 c2 c3) ∧ Binds K fd ["self", p, q] []
structure XCls1F (P : Program) (w : World) (K : PySem.W.Frag) (mg : Str → Option Value) (base : Heap) (Cn f c1 c2 : Str) : Prop where
  ex : ∃ (C fI : Addr) (fd : FuncData) (p : Str), mg Cn = some (.ref C) ∧ (OexC K C ∧ XfC K C ∧ PySem.W.findIn K (.ref C) f = some none) ∧ PySem.W.findIn K (.ref C) "__init__" = some (some (.ref fI)) ∧ PySem.W.typeIn K (.ref fI) = some (.type "function") ∧
    FnOk P w K mg base (L2.CX P w) 1 fI fd ["self", p] (spX1F C f c1 c2) ∧ Binds K fd ["self", p] []
section
variable {P : Program} {w : World} {K : PySem.W.Frag} {mg : Str → Option Value} {base h : Heap}
theorem XCls2.xc {Cn f g c1 c2 c3 : Str} (T : XCls2 P w K mg base Cn f g c1 c2 c3) : XC2 P w K mg base Cn f g c1 c2 c3 :=
  let ⟨C, fI, fd, p, q, h1, ⟨h2, _⟩, h3, h4, h5, h6⟩ := T.ex
  ⟨C, fI, fd, p, q, h1, h2, h3, h4, h5, h6⟩
theorem XCls2.xfa {Cn f g c1 c2 c3 : Str} (T : XCls2 P w K mg base Cn f g c1 c2 c3) : XfA K mg Cn f :=
  let ⟨D, _, _, _, _, h1, ⟨_, h3, h4, _⟩, _⟩ := T.ex
  ⟨D, h1, h3, h4⟩
theorem XCls2.xfb {Cn f g c1 c2 c3 : Str} (T : XCls2 P w K mg base Cn f g c1 c2 c3) : XfA K mg Cn g :=
  let ⟨D, _, _, _, _, h1, ⟨_, h3, _, h4⟩, _⟩ := T.ex
  ⟨D, h1, h3, h4⟩
theorem XCls1F.xc {Cn f c1 c2 : Str} (T : XCls1F P w K mg base Cn f c1 c2) : XC1F P w K mg base Cn f c1 c2 :=
  let ⟨C, fI, fd, p, h1, ⟨h2, _⟩, h3, h4, h5, h6⟩ := T.ex
  ⟨C, fI, fd, p, h1, h2, h3, h4, h5, h6⟩
theorem XCls1F.xfa {Cn f c1 c2 : Str} (T : XCls1F P w K mg base Cn f c1 c2) : XfA K mg Cn f :=
  let ⟨D, _, _, _, h1, ⟨_, h3, h4⟩, _⟩ := T.ex
  ⟨D, h1, h3, h4⟩
theorem x_mk2 {Cn f g nm q qual file : Str} {st : Stmt} {C N fI cda cc : Addr} {bs bm : List Value} {sn sub ab col dd k0 k1 k2 k3 k5 : _} {oc kV doc pm ct ccl cl : Value} {od an cdd cld : Option Addr} {osl ccs csl : Array (Option Value)} {vs : Array Value} {tf : Tok} {p q1 c1 c2 c3 : Str} {j1 j2 j3 : Nat} {pl : Env → Sem Bool} {p0 p1 p2 p4 p5 p6 p7 p8 p9 p10 p11 p12 p13 p14 p15 p16 p17 p18 p19 p20 p21 : Pos} {ar : Arg}
    (X : K.In h) (G : h.Ns mainGlobals mg) (aC : nsIn K mainGlobals Cn = some (some (.ref C))) (xL : K.lookup C = some (excClassObj nm q C N bs bm true sn sub ab col dd k0 k1 k2 k3 k5 "ValueError.__new__"))
    (ini : findIn K (.ref C) "__init__" = some (some (.ref fI)))
    (lk : K.lookup fI = some ⟨oc, od, .func (ksFn "__init__" qual (defArgs st) (defBody st) (defScope st) .none kV doc pm an (.ref cda) ct cc), osl⟩) (lcd : K.lookup cda = some ⟨ccl, cdd, .fields vs, ccs⟩) (lcc : K.lookup cc = some ⟨cl, cld, .cell (some (.ref C)), csl⟩)
    (cd : codeIn K (.ref cda) qual = true) (sa : findIn K (.ref C) "__setattr__" = some (some (.builtin "object.__setattr__"))) (eC : subIn K (.ref C) (.type "BaseException") = some true) (tC : typeIn K (.ref C) = some (.type "type")) (kC : keepIn K (.ref C) = true)
    (ga : findIn K (.ref C) "__getattribute__" = some (some (.builtin "BaseException.__getattribute__"))) (gg : findIn K (.ref C) "__getattr__" = some none) (hd : hasDictIn K C = true) (nof : findIn K (.ref C) f = some none) (nog : findIn K (.ref C) g = some none) (tI : typeIn K (.ref fI) = some (.type "function"))
    (mro : mroIn K C (.ref C) = some true) (nosup : nsIn K mainGlobals "super" = some none) (sini : ks_superIn K C C "__init__" = some (some (.builtin "ValueError.__init__"))) (val : subIn K (.ref C) (.type "ValueError") = some true) (stat : nsIn K cStatics "thirdparty.any" = some none)
    (rf : PySem.HandSPX.refsVE bm = true) (v2 : vs[2]? = some (.str file tf)) (hfile : ((P.main.file : Str) == file) = true) (top : (P.main.scope.names.lookup ("super" : Str)).isSome = false)
    (S : LVX.SupScope ["self", p, q1] ["self", p, q1] (defScope st)) (hp : ((defArgs st).posonlyargs ++ (defArgs st).args).head? = some ar) (hself : ar.arg = "self")
    (hbody : defBody st = [.Expr (.Call (.Attribute (.Call (.Name "super" p0) [] [] p1) "__init__" p2) [.JoinedStr [.Constant (.str c1) j1 p10, .FormattedValue (.Name p p11) (-1) none p12, .Constant (.str c2) j2 p13, .FormattedValue (.Name q1 p14) (-1) none p15, .Constant (.str c3) j3 p16] p17] [] p4) p5, .Assign [.Attribute (.Name "self" p6) f p7] (.Name p p8) p9, .Assign [.Attribute (.Name "self" p18) g p19] (.Name q1 p20) p21])
    (hpd : (p == ("__debug__" : Str)) = false) (hpc : (p == ("__classdict__" : Str)) = false) (hqd : (q1 == ("__debug__" : Str)) = false) (hqc : (q1 == ("__classdict__" : Str)) = false) (hev : SupEv p0 p1 p2 p4 (.JoinedStr [.Constant (.str c1) j1 p10, .FormattedValue (.Name p p11) (-1) none p12, .Constant (.str c2) j2 p13, .FormattedValue (.Name q1 p14) (-1) none p15, .Constant (.str c3) j3 p16] p17) pl) (hsw : SupSw p0 p1 p2 p4 p5 (.JoinedStr [.Constant (.str c1) j1 p10, .FormattedValue (.Name p p11) (-1) none p12, .Constant (.str c2) j2 p13, .FormattedValue (.Name q1 p14) (-1) none p15, .Constant (.str c3) j3 p16] p17))
    (b : ∀ us : List Value, us.length = (["self", p, q1] : List Str).length → bindArgs (ksFn "__init__" qual (defArgs st) (defBody st) (defScope st) .none kV doc pm an (.ref cda) ct cc) ⟨us, []⟩ = pure ((["self", p, q1] : List Str).zip us)) : XCls2 P w K mg base Cn f g c1 c2 c3 :=
  have T : OexC K C := ⟨⟨nm, q, N, bs, bm, sn, sub, ab, col, dd, k0, k1, k2, k3, k5, xL, rf⟩, sa, eC, tC, kC⟩
  ⟨C, fI, _, p, q1, PySem.W.mg_of X G aC, ⟨T, ⟨ga, gg, eC, hd⟩, nof, nog⟩, ini, tI,
    exc2 ⟨T, ⟨oc, od, kV, doc, pm, an, cda, cc, ct, osl, ccl, cdd, vs, ccs, file, tf, cl, cld, csl, rfl, lk, cd, lcd, v2, hfile, lcc⟩, mro, nosup, sini, val, stat, top⟩ S hp hself hbody nof nog hpd hpc hqd hqc hev hsw, .all b⟩
theorem x_mk1F {Cn f nm q qual file : Str} {st : Stmt} {C N fI cda cc : Addr} {bs bm : List Value} {sn sub ab col dd k0 k1 k2 k3 k5 : _} {oc kV doc pm ct ccl cl : Value} {od an cdd cld : Option Addr} {osl ccs csl : Array (Option Value)} {vs : Array Value} {tf : Tok} {p c1 c2 : Str} {j1 j2 : Nat} {pl : Env → Sem Bool} {p0 p1 p2 p4 p5 p6 p7 p8 p9 p10 p11 p12 p13 p17 : Pos} {ar : Arg}
    (X : K.In h) (G : h.Ns mainGlobals mg) (aC : nsIn K mainGlobals Cn = some (some (.ref C))) (xL : K.lookup C = some (excClassObj nm q C N bs bm true sn sub ab col dd k0 k1 k2 k3 k5 "ValueError.__new__"))
    (ini : findIn K (.ref C) "__init__" = some (some (.ref fI)))
    (lk : K.lookup fI = some ⟨oc, od, .func (ksFn "__init__" qual (defArgs st) (defBody st) (defScope st) .none kV doc pm an (.ref cda) ct cc), osl⟩) (lcd : K.lookup cda = some ⟨ccl, cdd, .fields vs, ccs⟩) (lcc : K.lookup cc = some ⟨cl, cld, .cell (some (.ref C)), csl⟩)
    (cd : codeIn K (.ref cda) qual = true) (sa : findIn K (.ref C) "__setattr__" = some (some (.builtin "object.__setattr__"))) (eC : subIn K (.ref C) (.type "BaseException") = some true) (tC : typeIn K (.ref C) = some (.type "type")) (kC : keepIn K (.ref C) = true)
    (ga : findIn K (.ref C) "__getattribute__" = some (some (.builtin "BaseException.__getattribute__"))) (gg : findIn K (.ref C) "__getattr__" = some none) (hd : hasDictIn K C = true) (nof : findIn K (.ref C) f = some none) (tI : typeIn K (.ref fI) = some (.type "function"))
    (mro : mroIn K C (.ref C) = some true) (nosup : nsIn K mainGlobals "super" = some none) (sini : ks_superIn K C C "__init__" = some (some (.builtin "ValueError.__init__"))) (val : subIn K (.ref C) (.type "ValueError") = some true) (stat : nsIn K cStatics "thirdparty.any" = some none)
    (rf : PySem.HandSPX.refsVE bm = true) (v2 : vs[2]? = some (.str file tf)) (hfile : ((P.main.file : Str) == file) = true) (top : (P.main.scope.names.lookup ("super" : Str)).isSome = false)
    (S : LVX.SupScope ["self", p] ["self", p] (defScope st)) (hp : ((defArgs st).posonlyargs ++ (defArgs st).args).head? = some ar) (hself : ar.arg = "self")
    (hbody : defBody st = [.Expr (.Call (.Attribute (.Call (.Name "super" p0) [] [] p1) "__init__" p2) [.JoinedStr [.Constant (.str c1) j1 p10, .FormattedValue (.Name p p11) (-1) none p12, .Constant (.str c2) j2 p13] p17] [] p4) p5, .Assign [.Attribute (.Name "self" p6) f p7] (.Name p p8) p9])
    (hpd : (p == ("__debug__" : Str)) = false) (hpc : (p == ("__classdict__" : Str)) = false) (hev : SupEv p0 p1 p2 p4 (.JoinedStr [.Constant (.str c1) j1 p10, .FormattedValue (.Name p p11) (-1) none p12, .Constant (.str c2) j2 p13] p17) pl) (hsw : SupSw p0 p1 p2 p4 p5 (.JoinedStr [.Constant (.str c1) j1 p10, .FormattedValue (.Name p p11) (-1) none p12, .Constant (.str c2) j2 p13] p17))
    (b : ∀ us : List Value, us.length = (["self", p] : List Str).length → bindArgs (ksFn "__init__" qual (defArgs st) (defBody st) (defScope st) .none kV doc pm an (.ref cda) ct cc) ⟨us, []⟩ = pure ((["self", p] : List Str).zip us)) : XCls1F P w K mg base Cn f c1 c2 :=
  have T : OexC K C := ⟨⟨nm, q, N, bs, bm, sn, sub, ab, col, dd, k0, k1, k2, k3, k5, xL, rf⟩, sa, eC, tC, kC⟩
  ⟨C, fI, _, p, PySem.W.mg_of X G aC, ⟨T, ⟨ga, gg, eC, hd⟩, nof⟩, ini, tI,
    exc1F ⟨T, ⟨oc, od, kV, doc, pm, an, cda, cc, ct, osl, ccl, cdd, vs, ccs, file, tf, cl, cld, csl, rfl, lk, cd, lcd, v2, hfile, lcc⟩, mro, nosup, sini, val, stat, top⟩ S hp hself hbody nof hpd hpc hev hsw, .all b⟩
end
end LV
set_option maxHeartbeats 400000
namespace LV
open PySem PySem.Spec L2
theorem valL_fz {env : En} : ∀ ds : List D, valL env (ds.map .fz) = some (ds.map Val.fz)
  | [] => rfl
  | d :: ds => by
    rw [List.map_cons, List.map_cons]
    simp only [valL, valOf, valL_fz ds]
theorem slots_fz : ∀ ds : List D, slotsOf (ds.map .fz) = []
  | [] => rfl
  | d :: ds => slots_fz ds
theorem putL_fz {env : En} : ∀ (ds : List D) (as : List Val), putL env (ds.map .fz) as = env
  | [], _ => by unfold putL; rfl
  | d :: ds, [] => rfl
  | d :: ds, a :: as => putL_fz ds as
end LV
namespace LV
open PySem PySem.Spec L2
end LV
namespace LV
open PySem PySem.Spec L2
structure EvR (env : En) (w : EW) (r : Rv) (env' : En) : Prop where
  go : ∀ {Q : Rv → En → Prop} {E : XW}, Q r env' → w env Q E
structure Ev (env : En) (w : EW) (d : D) (env' : En) : Prop where
  go : ∀ {Q : Rv → En → Prop} {E : XW}, Q (.fz d) env' → wFz w env Q E
structure EvX (env : En) (w : EW) (x : Xn) (env' : En) : Prop where
  go : ∀ {Q : Rv → En → Prop} {E : XW}, E x env' → w env Q E
structure EvL (env : En) (wl : AW) (ds : List D) (env' : En) : Prop where
  go : ∀ {Q : List Rv → En → Prop} {E : XW}, Q (ds.map .fz) env' → wl env Q E
structure EvT (env : En) (u : TW) (b : Bool) (env' : En) : Prop where
  go : ∀ {Q : Bool → En → Prop} {E : XW}, Q b env' → u env Q E
section
variable {env e1 e2 e3 : En} {w wa wb wc : EW} {wl : AW} {d a b c : D} {r : Rv} {ds : List D} {o : O} {i n : Nat} {u v : TW} {k l : Bool} {S : FSpec} {tbl : List (Str × FSpec)} {C m : Str} {ks : List Str} {vs : List D} {x : Xn}
theorem EvR.ev (h : EvR env w r e1) (e : r.frz = .fz d) : Ev env w d e1 := ⟨fun {Q E} q => h.go (Q := fun r e => Q r.frz e) (by rw [e]; exact q)⟩
theorem EvR.fz (h : EvR env w (.fz d) e1) : Ev env w d e1 := h.ev rfl
theorem EvR.ow (h : EvR env w (.ow o) e1) : Ev env w o.d e1 := h.ev rfl
theorem evl_nil : EvL env wNil [] env := ⟨fun q => q⟩
theorem evl_cons (h : Ev env w d e1) (t : EvL e1 wl ds e2) : EvL env (wCons w wl) (d :: ds) e2 := ⟨fun q => h.go (t.go q)⟩
theorem ev_frz (h : Ev env w d e1) : EvR env (wFrz w) (.fz d) e1 := ⟨fun q => h.go ⟨d, _, rfl, q⟩⟩
theorem ev_frzs (h : env[i]? = some (some (.ow o))) : EvR env (wFrz (wVar i)) (.fz o.d) (env.set i (some (.fz o.d))) := ⟨fun {Q E} q => by
  simp only [wFrz, wFz, wVar, h]
  exact ⟨o.d, _, by simp only [Rv.frz, frz1, h], q⟩⟩
theorem ev_var (h : env[i]? = some (some (.fz d))) : EvR env (wVar i) (.fz d) env := ⟨fun {Q E} q => by
  simp only [wVar, h]; exact q⟩
theorem vx (i : Nat) {env : En} {d : D} (h : env[i]? = some (some (.fz d))) : Ev env (wVar i) d env := (ev_var h).fz
theorem fx (i : Nat) {env : En} {d : D} (h : env[i]? = some (some (.fz d))) : Ev env (wFrz (wVar i)) d env := (ev_frz (vx i h)).fz
theorem ev_c : EvR env (wC d) (.fz d) env := ⟨fun q => q⟩
theorem cx {env : En} {d : D} : Ev env (wC d) d env := ev_c.fz
theorem ev_op {g : G2} (ha : Ev env wa a e1) (hb : Ev e1 wb b e2) (hg : ∀ Q' : Rv → Prop, Q' r → g a b Q') : EvR env (wOp2 g wa wb) r e2 := ⟨fun q => ha.go (hb.go ⟨a, b, rfl, rfl, hg _ q⟩)⟩
/-- the first operand is a name that owns -/
theorem ev_opS {g : G2} (ha : env[i]? = some (some (.ow o))) (hb : Ev env wb b e2) (h2 : e2[i]? = some (some (.ow o))) (hg : ∀ Q' : Rv → Prop, Q' r → g o.d b Q') (hn : ∀ xs, o ≠ .nst xs := by intro _ z; cases z) : EvR env (wOp2 g (wVar i) wb) r e2 := ⟨fun {Q E} q => by
  show wVar i env (fun ra e1 => wFz wb e1 (fun rb e2 => ∃ da db, look e2 ra.frz = some da ∧ look e2 rb = some db ∧ g da db (fun r => Q r e2)) E) E
  simp only [wVar, ha]
  exact hb.go ⟨o.d, b, by cases o <;> first | exact absurd rfl (hn _) | simp only [Rv.frz, look, h2], rfl, hg _ q⟩⟩
theorem backOk_fz : ∀ ds : List D, backOk (ds.map .fz) (ds.map .fz) = true
  | [] => rfl
  | _ :: ds => backOk_fz ds
theorem ev_call (hl : EvL env wl ds e1) (hS : ∀ {Q' : Rv → List Val → Prop} {E' : Xn → List Val → Prop}, Q' r (ds.map .fz) → S (ds.map .fz) Q' E') (hr : ∀ i, r ≠ .sl i) : EvR env (wCall S wl) r e1 := ⟨fun {Q E} q => by
  unfold wCall
  exact hl.go ⟨_, valL_fz ds, by rw [slots_fz]; exact List.nodup_nil, hS ⟨backOk_fz ds, hr, by rw [putL_fz]; exact q⟩⟩⟩
theorem frzL_fz' {e : En} : ∀ ds : List D, frzL e (ds.map Rv.fz) = some (ds, e)
  | [] => rfl
  | d :: ds => by
    show (match frzL e (ds.map Rv.fz) with | none => none | some (ds, e2) => some (d :: ds, e2)) = some (d :: ds, e)
    rw [frzL_fz' ds]
theorem ev_tup (hl : EvL env wl ds e1) (hz : ds.length ≤ sizeLine) : EvR env (wTup wl) (.fz (.tup ds)) e1 := ⟨fun q => hl.go ⟨ds, e1, frzL_fz' ds, hz, q⟩⟩
theorem ev_lst (hl : EvL env wl ds e1) (hz : ds.length ≤ sizeLine) : EvR env (wLst wl) (.ow (.lst ds)) e1 := ⟨fun q => hl.go ⟨ds, e1, frzL_fz' ds, hz, q⟩⟩
theorem lookL_fz {e : En} : ∀ ds : List D, lookL e (ds.map Rv.fz) = some ds
  | [] => rfl
  | d :: ds => by
    show (match look e (.fz d), lookL e (ds.map Rv.fz) with | some d, some ds => some (d :: ds) | _, _ => none) = some (d :: ds)
    rw [lookL_fz ds]; rfl
theorem ev_blt {g : GL} (hl : EvL env wl ds e1) (hg : ∀ Q' : Rv → Prop, Q' r → g ds Q') : EvR env (wBlt g wl) r e1 := ⟨fun q => hl.go ⟨ds, lookL_fz ds, hg _ q⟩⟩
/-- a built-in over a name that owns -/
theorem ev_bltS {g : GL} (h : env[i]? = some (some (.ow o))) (hg : ∀ Q' : Rv → Prop, Q' r → g [o.d] Q') (hn : ∀ xs, o ≠ .nst xs := by intro _ z; cases z) : EvR env (wBlt g (wCons (wVar i) wNil)) r env := ⟨fun {Q E} q => by
  simp only [wBlt, wCons, wFz, wVar, h, wNil]
  refine ⟨[o.d], ?_, hg _ q⟩
  cases o <;> first | exact absurd rfl (hn _) | simp only [Rv.frz, lookL, look, h]⟩
theorem ev_lc {tg : Tg} {pn : List Nat} {xs acc : List D} {sl : List Nat} (hi : EvR env wa (.fz d) e1) (hx : itemsD d = some xs) (hc : ∀ Q : List D → En → Prop, Q acc e2 → compW tg u w sl yesK Q xs [] (wipeE e1 sl)) : EvR env (wLc tg (wIt pn wa) u w sl) (.ow (.lst acc)) e2 := ⟨fun q => hi.go ⟨xs, hx, hc _ q⟩⟩
theorem ev_lcR {tg : Tg} {n : Nat} {acc : List D} {sl : List Nat} (hl : EvL env wl [.int (n : Int)] e1) (hn : n ≤ 1000000) (hc : ∀ Q : List D → En → Prop, Q acc e2 → compW tg u w sl yesK Q (rngD 0 n) [] (wipeE e1 sl)) : EvR env (wLc tg (wRng1 wl) u w sl) (.ow (.lst acc)) e2 := ⟨fun q => hl.go ⟨(n : Int), rfl, by unfold okR; omega, by rw [Int.toNat_natCast]; exact hc _ q⟩⟩
theorem ev_and_t (ha : EvR env wa (.fz (.bl true)) e1) (hb : EvR e1 wb r e2) : EvR env (wAnd wa wb) r e2 := ⟨fun q => ha.go ⟨true, rfl, by rw [if_pos rfl]; exact hb.go q⟩⟩
theorem ev_and_f (ha : EvR env wa (.fz (.bl false)) e1) : EvR env (wAnd wa wb) (.fz (.bl false)) e1 := ⟨fun q => ha.go ⟨false, rfl, by rw [if_neg Bool.false_ne_true]; exact q⟩⟩
theorem ev_or_t (ha : EvR env wa (.fz (.bl true)) e1) : EvR env (wOr wa wb) (.fz (.bl true)) e1 := ⟨fun q => ha.go ⟨true, rfl, by rw [if_pos rfl]; exact q⟩⟩
theorem ev_or_f (ha : EvR env wa (.fz (.bl false)) e1) (hb : EvR e1 wb r e2) : EvR env (wOr wa wb) r e2 := ⟨fun q => ha.go ⟨false, rfl, by rw [if_neg Bool.false_ne_true]; exact hb.go q⟩⟩
theorem evt_B (h : EvR env w (.fz (.bl k)) e1) : EvT env (wB w) k e1 := ⟨fun q => h.go ⟨k, rfl, q⟩⟩
theorem evt_tru (h : Ev env w d e1) (t : truD d k) : EvT env (wTru w) k e1 := ⟨fun q => h.go ⟨d, k, rfl, t, q⟩⟩
theorem evt_trub (h : EvR env w (.fz (.bl k)) e1) : EvT env (wTru w) k e1 := evt_tru h.fz rfl
theorem evt_not (h : EvT env u k e1) : EvT env (wtNot u) (!k) e1 := ⟨fun q => h.go q⟩
theorem evt_and_t (h : EvT env u true e1) (t : EvT e1 v k e2) : EvT env (wtAnd u v) k e2 := ⟨fun q => h.go (by rw [if_pos rfl]; exact t.go q)⟩
theorem evt_and_f (h : EvT env u false e1) : EvT env (wtAnd u v) false e1 := ⟨fun q => h.go (by rw [if_neg Bool.false_ne_true]; exact q)⟩
theorem evt_or_f (h : EvT env u false e1) (t : EvT e1 v k e2) : EvT env (wtOr u v) k e2 := ⟨fun q => h.go (by rw [if_neg Bool.false_ne_true]; exact t.go q)⟩
variable {K : Ks} {s t : SW} {pn : List Nat}
theorem run_set (h : EvR env w (.fz d) e1) (q : K.nx (e1.set i (some (.fz d)))) : wSet i w K env := h.go q
theorem run_setO (h : EvR env w (.ow o) e1) (q : K.nx (e1.set i (some (.ow o)))) : wSet i w K env := h.go q
theorem run_if_t (h : EvT env u true e1) (q : s K e1) : wIf u s t K env := h.go (by rw [if_pos rfl]; exact q)
theorem run_if_f (h : EvT env u false e1) (q : t K e1) : wIf u s t K env := h.go (by rw [if_neg Bool.false_ne_true]; exact q)
theorem run_ret (h : EvR env w (.fz d) e1) (q : K.rt (.fz d) e1) : wRet pn w K env := h.go q
theorem run_retO (h : EvR env w (.ow o) e1) (q : K.rt (.ow o) e1) : wRet pn w K env := h.go q
end
end LV
namespace LV
open PySem PySem.Spec L2
def TKey (d : D) : Prop := ∃ x, d = .str x
def valT (x : Str) : List D → List D → Option D
  | .str y :: ks, d :: ds => if y = x then some d else valT x ks ds
  | _ :: ks, _ :: ds => valT x ks ds
  | _, _ => none
section
variable {M : Md} {F H : Hp} {p : Addr} {ks ds : List D}
theorem DRep.text (h : DRep M F H p ks ds) (hk : ∀ k ∈ ks, TKey k) : ∃ kv : List (Key × V), H p = some (.dK kv) ∧ kv.map (fun p => kD p.1) = ks ∧ RepL M F (kv.map (·.2)) ds := by
  rcases h with h | ⟨xs, vs, h1, h2, h3, h4, h5, h6⟩
  · exact h
  · exfalso
    cases xs with
    | nil => exact h3.2 rfl
    | cons x xs =>
      subst h2
      obtain ⟨y, hy⟩ := hk _ List.mem_cons_self
      cases h4 with
      | cons r _ =>
        rw [hy] at r
        cases r
end
def gGetT : G2 := fun a b Q => match a, b with
  | .dct ks ds, .str x => (∀ k ∈ ks, TKey k) ∧ ∃ d, valT x ks ds = some d ∧ Q (.fz d)
  | _, _ => False
theorem Mono2.getT : Mono2 gGetT := ⟨fun {a b Q Q'} h q => by
  unfold gGetT at q ⊢
  split at q
  · obtain ⟨k, d, e, q⟩ := q; exact ⟨k, d, e, h _ q⟩
  · exact q⟩
end LV
set_option maxHeartbeats 1000000
namespace LV
open PySem PySem.Spec L2
end LV
namespace LV
open PySem PySem.Spec L2
end LV
set_option maxHeartbeats 400000
namespace LV
open PySem PySem.Spec L2
/-- a comprehension whose parts change nothing -/
theorem cw_fm {tg : Tg} {u : TW} {w : EW} {vs : List Nat} {keep : KeepE} {Q : List D → En → Prop} {env : En} (p : D → Bool) (f : D → D) (hk : keep env) : ∀ (ds acc : List D),
    (∀ d ∈ ds, ∃ e1, bindT tg d env = some e1 ∧ wipeE e1 vs = env ∧ (∀ G : Bool → En → Prop, G (p d) e1 → u e1 G X0) ∧ (p d = true → ∀ G : Rv → En → Prop, G (.fz (f d)) e1 → wFz w e1 G X0)) →
    acc.length + ds.length < sizeLine → Q (acc ++ (ds.filter p).map f) env → compW tg u w vs keep Q ds acc env
  | [], acc, _, _, q => ⟨hk, by simpa using q⟩
  | d :: ds, acc, h, hl, q => by
    obtain ⟨e1, h1, h2, h3, h4⟩ := h d List.mem_cons_self
    rw [List.length_cons] at hl
    refine ⟨hk, e1, h1, h3 _ ?_⟩
    cases hp : p d with
    | true =>
      rw [if_pos rfl]
      refine h4 hp _ ⟨f d, e1, rfl, by omega, ?_⟩
      rw [h2]
      refine cw_fm p f hk ds _ (fun x hx => h x (List.mem_cons_of_mem _ hx)) (by rw [List.length_append, List.length_singleton]; omega) ?_
      rw [List.filter_cons_of_pos hp, List.map_cons] at q
      rw [List.append_assoc]; exact q
    | false =>
      rw [if_neg Bool.false_ne_true]
      show compW tg u w vs keep Q ds acc (wipeE e1 vs)
      rw [h2]
      refine cw_fm p f hk ds _ (fun x hx => h x (List.mem_cons_of_mem _ hx)) (by omega) ?_
      rw [List.filter_cons_of_neg (by rw [hp]; exact Bool.false_ne_true)] at q
      exact q
theorem cw_map {tg : Tg} {w : EW} {vs : List Nat} {keep : KeepE} {Q : List D → En → Prop} {env : En} (f : D → D) (hk : keep env) (ds : List D)
    (h : ∀ d ∈ ds, ∃ e1, bindT tg d env = some e1 ∧ wipeE e1 vs = env ∧ ∀ G : Rv → En → Prop, G (.fz (f d)) e1 → wFz w e1 G X0) (hl : ds.length < sizeLine) (q : Q (ds.map f) env) : compW tg uYes w vs keep Q ds [] env := by
  refine cw_fm (fun _ => true) f hk ds [] (fun d hd => ?_) (by rw [List.length_nil]; omega) ?_
  · obtain ⟨e1, h1, h2, h3⟩ := h d hd
    exact ⟨e1, h1, h2, fun G g => g, fun _ G g => h3 G g⟩
  · rw [List.nil_append, List.filter_eq_self.mpr (fun _ _ => rfl)]; exact q
theorem rng_eq : ∀ (n : Nat) (lo : Int), rngD lo n = (List.range n).map fun k : Nat => D.int (lo + k)
  | 0, lo => rfl
  | n + 1, lo => by
    rw [rngD, rng_eq n, List.range_succ_eq_map, List.map_cons, List.map_map]
    congr 1
    · simp
    · apply List.map_congr_left
      intro k _
      simp only [Function.comp]
      congr 1
      omega
theorem at_nat {α : Type} {l : List α} {k : Nat} {x : α} (h : l[k]? = some x) : L2.atI l (k : Int) = some x := by
  have hk := (List.getElem?_eq_some_iff.mp h).1
  unfold L2.atI L2.ixN
  rw [if_pos (by omega), if_pos (by omega)]
  exact h
end LV
set_option maxHeartbeats 1000000
namespace LV
open PySem PySem.Spec L2
end LV
namespace LV
open PySem PySem.Spec L2
end LV
namespace LV
open PySem PySem.Spec L2
end LV
set_option maxHeartbeats 4000000
namespace LV
open PySem PySem.Spec PySem.W L2
structure SEA (X : Cx) (cd : Code) (c : Ct) (W : WX) (e : Expr) (w : EW) : Prop where
  run : ∀ (pins : List (Addr × Obj)) (s : Shared) (σ : L2.St) (H : Hp) (Q : VK), L2.Inv X pins σ H s → ERd (mdX X) c W w σ H Q → wpAt (model X.prog X.w) X.A cd (eval e X.env) (EP X pins σ Q) X.xe s
  mo : Mono w
end LV
namespace LV
open PySem PySem.Spec PySem.W L2
section
variable {X : Cx} {cd : Code} {c : Ct} {W : WX} {a b e : Expr} {wa wb w : EW} {pos : Pos} {g : G2} {op : Operator} {st : Stmt} {rest : List Stmt} {s1 s2 : SW}
theorem SEA.of (h : SE X c W e w) : SEA X cd c W e w := ⟨fun pins s σ H Q I q => wpAt_of_wpAny (h.pe.run pins s σ H Q I q), h.mo⟩
end
end LV
namespace LV
open PySem PySem.Spec PySem.W L2
end LV
namespace LV
open PySem PySem.Spec PySem.W L2
end LV
set_option maxHeartbeats 1000000
namespace LV
open PySem PySem.Spec PySem.W L2
end LV
namespace LV
open PySem PySem.Spec L2
end LV
set_option maxHeartbeats 400000
namespace LV
open PySem PySem.Spec L2
end LV
set_option maxHeartbeats 1000000
namespace LV
open PySem PySem.Spec PyProof.Rows L2
end LV
namespace LV
open PySem PySem.Spec L2
def wSplit (wo we : EW) : EW := fun env Q E => wFz wo env (fun r e1 => ∃ a, r = .fz (.str a) ∧ wFz we e1 (fun r2 e2 => ∃ b : Str, r2 = .fz (.str b) ∧ (b.length == 0) = false ∧ a.length + 2 ≤ sizeLine ∧ Q (.ow (.lst ((Txt.split a b).map D.str))) e2) E) E
theorem Mono.split {wo we : EW} (mo : Mono wo) (me : Mono we) : Mono (wSplit wo we) := ⟨fun hQ hE h => mo.fz.mo (fun r e1 ⟨a, b, q⟩ => ⟨a, b, me.fz.mo (fun r2 e2 ⟨y, l, s, s2, z⟩ => ⟨y, l, s, s2, hQ _ _ z⟩) hE q⟩) hE h⟩
end LV
namespace LV
open PySem PySem.Spec L2
def kvKey (p : Str × Int) : Key × V := (.inr p.1, .int p.2)
section
variable {P : Program} {w : World} {K : PySem.W.Frag} {h : Heap} {mg : Str → Option Value}
inductive DE (w : World) : List DictEntry → List (Str × Int) → Prop
  | nil : DE w [] []
  | cons {x : Str} {t t' : Tok} {n : Int} {es : List DictEntry} {kvs : List (Str × Int)} : DE w es kvs → DE w (⟨PyData.keyHash w.params x, .str x t, .int n t'⟩ :: es) ((x, n) :: kvs)
end
end LV
namespace LV
open PySem PySem.Spec L2
end LV
namespace LV
open PySem PySem.Spec L2
end LV
namespace LV
open PySem PySem.Spec L2
end LV
namespace LV
open PySem PySem.Spec L2
section
variable {P : Program} {w : World} {K : PySem.W.Frag} {h : Heap} {mg : Str → Option Value}
theorem DE.all {es : List DictEntry} {kvs : List (Str × Int)} (d : DE w es kvs) : ∃ vs : List (Key × Value), KV (kvs.map kvKey) vs ∧ (∀ e ∈ es, ∃ k, keyIs k e.key = true ∧ e.hash = keyH w k) ∧ Pairs (mixKind P w) es vs ∧ vs.map (·.1) = (kvs.map (·.1)).map Sum.inr := by
  induction d with
  | nil => exact ⟨[], .nil, fun e h => (nomatch h), .nil, rfl⟩
  | @cons x t t' n es kvs d ih =>
    obtain ⟨vs, k1, k2, k3, k4⟩ := ih
    refine ⟨(.inr x, .int n t') :: vs, .cons ⟨rfl, t', rfl⟩ k1, fun e h => ?_, .cons (keyIs_str x t) rfl k3, by rw [List.map_cons, k4]; rfl⟩
    rcases List.mem_cons.mp h with rfl | h
    · exact ⟨.inr x, keyIs_str x t, rfl⟩
    · exact k2 e h
end
end LV
namespace LV
open PySem PySem.Spec L2
section
variable {X : Cx} {c : Ct} {W : WX} {o e f : Expr} {wo we wf : EW} {keys : List (Option Expr)} {values : List Expr} {kvs : List (Str × Int)} {pos apos : Pos}
def wGetD (wo we wf : EW) : EW := fun env Q E => wFz wo env (fun r e1 => (∃ ks ds, look e1 r = some (.dct ks ds) ∧ ∀ k ∈ ks, TKey k) ∧ wFz we e1 (fun r2 e2 => ∃ x, r2 = .fz (.str x) ∧ wFz wf e2 (fun r3 e3 => ∃ ks ds z, look e3 r = some (.dct ks ds) ∧ (∀ k ∈ ks, TKey k) ∧ r3 = .fz z ∧ Q (.fz ((valT x ks ds).getD z)) e3) E) E) E
theorem Mono.getD (mo : Mono wo) (me : Mono we) (mf : Mono wf) : Mono (wGetD wo we wf) := ⟨fun hQ hE h => mo.fz.mo (fun r e1 ⟨a, q⟩ => ⟨a, me.fz.mo (fun r2 e2 ⟨x, b, q⟩ => ⟨x, b, mf.fz.mo (fun r3 e3 ⟨ks, ds, z, l, k, y, q⟩ => ⟨ks, ds, z, l, k, y, hQ _ _ q⟩) hE q⟩) hE q⟩) hE h⟩
end
end LV
namespace LV
open PySem PySem.Spec L2
end LV
namespace LV
open PySem PySem.Spec L2
def spX1I (C : Addr) (f c1 c2 : Str) : Sp := fun vs H Q _ => ∃ (a : Addr) (s : Int), vs = [.ref a, .int s] ∧ H a = some (exo a C none) ∧ s.natAbs.log2 < 1920 ∧ okMsg1 c1 c2 (toString s) ∧
  ∀ d, H d = none → d ≠ a → Q .non (upd (upd H d (exd d [(f, .int s)])) a (exo a C (some d)))
theorem exc1I {P : Program} {w : World} {K : PySem.W.Frag} {mg : Str → Option Value} {base : Heap} {C fI : Addr} {name qual : Str} {params : Arguments} {body : List Stmt} {scope : Scope} {fd : FuncData} {p f c1 c2 : Str} {CX : CXT} {j1 j2 : Nat} {pl : Env → Sem Bool} {p0 p1 p2 p4 p5 p6 p7 p8 p9 p10 p11 p12 p13 p17 : Pos} {ar : Arg}
    (G : LVX.ExcF P K C fI name qual params body scope fd) (S : LVX.SupScope ["self", p] ["self", p] scope) (hp : (params.posonlyargs ++ params.args).head? = some ar) (hself : ar.arg = "self")
    (hbody : body = [.Expr (.Call (.Attribute (.Call (.Name "super" p0) [] [] p1) "__init__" p2) [.JoinedStr [.Constant (.str c1) j1 p10, .FormattedValue (.Name p p11) (-1) none p12, .Constant (.str c2) j2 p13] p17] [] p4) p5,
      .Assign [.Attribute (.Name "self" p6) f p7] (.Name p p8) p9])
    (hno : PySem.W.findIn K (.ref C) f = some none) (hpd : (p == ("__debug__" : Str)) = false) (hpc : (p == ("__classdict__" : Str)) = false)
    (hev : SupEv p0 p1 p2 p4 (.JoinedStr [.Constant (.str c1) j1 p10, .FormattedValue (.Name p p11) (-1) none p12, .Constant (.str c2) j2 p13] p17) pl)
    (hsw : SupSw p0 p1 p2 p4 p5 (.JoinedStr [.Constant (.str c1) j1 p10, .FormattedValue (.Name p p11) (-1) none p12, .Constant (.str c2) j2 p13] p17)) : FnOk P w K mg base CX 1 fI fd ["self", p] (spX1I C f c1 c2) := by
  refine LVX.exc_init (hev := hev) (hsw := hsw) (k := 0) G S hp (by rw [hself]; rfl) hbody (fun vs H Q E ⟨a, s, h, _⟩ => by rw [h]; rfl) (fun cdv cc A outer s H vs Q E hr ⟨a, x, hvs, ha, hx, hm, hq⟩ => ?_) (fun _ => rfl)
  subst hvs
  have e0 := S.par "self" (by simp)
  have e1 := S.par p (by simp)
  refine ⟨a, _, _, rfl, ha, pe_joined (.cons pe_str (.cons (pe_fmt (pe_var (i := 1) rfl (.inl e1) hpd hpc)) (.cons pe_str .nil))), pss_one (ps_ost (pe_var (i := 0) rfl (.inl e0)) (pe_var (i := 1) rfl (.inl e1) hpd hpc)), ?_⟩
  obtain ⟨m1, m2, m3⟩ := hm
  refine ⟨c1, rfl, m1, .int x, rfl, .inr ⟨x, rfl, hx, toString x, rfl, m2, c2, rfl, m3, ⟨_, rfl⟩, ha, ?_⟩⟩
  exact ⟨.int x, rfl, .ref a, rfl, a, C, rfl, G.T, hno, .inl ⟨ha, fun dx n ne => hq dx n ne⟩⟩
structure XC1I (P : Program) (w : World) (K : PySem.W.Frag) (mg : Str → Option Value) (base : Heap) (Cn f c1 c2 : Str) : Prop where
  ex : ∃ (C fI : Addr) (fd : FuncData) (p : Str), mg Cn = some (.ref C) ∧ OexC K C ∧ PySem.W.findIn K (.ref C) "__init__" = some (some (.ref fI)) ∧ PySem.W.typeIn K (.ref fI) = some (.type "function") ∧
    FnOk P w K mg base (L2.CX P w) 1 fI fd ["self", p] (spX1I C f c1 c2) ∧ Binds K fd ["self", p] []
end LV
namespace LV
open PySem PySem.Spec PySem.W L2
structure XCls1I (P : Program) (w : World) (K : PySem.W.Frag) (mg : Str → Option Value) (base : Heap) (Cn f c1 c2 : Str) : Prop where
  ex : ∃ (C fI : Addr) (fd : FuncData) (p : Str), mg Cn = some (.ref C) ∧ (OexC K C ∧ XfC K C ∧ PySem.W.findIn K (.ref C) f = some none) ∧ PySem.W.findIn K (.ref C) "__init__" = some (some (.ref fI)) ∧ PySem.W.typeIn K (.ref fI) = some (.type "function") ∧
    FnOk P w K mg base (L2.CX P w) 1 fI fd ["self", p] (spX1I C f c1 c2) ∧ Binds K fd ["self", p] []
section
variable {P : Program} {w : World} {K : PySem.W.Frag} {mg : Str → Option Value} {base h : Heap}
theorem XCls1I.xc {Cn f c1 c2 : Str} (T : XCls1I P w K mg base Cn f c1 c2) : XC1I P w K mg base Cn f c1 c2 :=
  let ⟨C, fI, fd, p, h1, ⟨h2, _⟩, h3, h4, h5, h6⟩ := T.ex
  ⟨C, fI, fd, p, h1, h2, h3, h4, h5, h6⟩
theorem XCls1I.xfa {Cn f c1 c2 : Str} (T : XCls1I P w K mg base Cn f c1 c2) : XfA K mg Cn f :=
  let ⟨D, _, _, _, h1, ⟨_, h3, h4⟩, _⟩ := T.ex
  ⟨D, h1, h3, h4⟩
theorem x_mk1I {Cn f nm q qual file : Str} {st : Stmt} {C N fI cda cc : Addr} {bs bm : List Value} {sn sub ab col dd k0 k1 k2 k3 k5 : _} {oc kV doc pm ct ccl cl : Value} {od an cdd cld : Option Addr} {osl ccs csl : Array (Option Value)} {vs : Array Value} {tf : Tok} {p c1 c2 : Str} {j1 j2 : Nat} {pl : Env → Sem Bool} {p0 p1 p2 p4 p5 p6 p7 p8 p9 p10 p11 p12 p13 p17 : Pos} {ar : Arg}
    (X : K.In h) (G : h.Ns mainGlobals mg) (aC : nsIn K mainGlobals Cn = some (some (.ref C))) (xL : K.lookup C = some (excClassObj nm q C N bs bm true sn sub ab col dd k0 k1 k2 k3 k5 "ValueError.__new__"))
    (ini : findIn K (.ref C) "__init__" = some (some (.ref fI)))
    (lk : K.lookup fI = some ⟨oc, od, .func (ksFn "__init__" qual (defArgs st) (defBody st) (defScope st) .none kV doc pm an (.ref cda) ct cc), osl⟩) (lcd : K.lookup cda = some ⟨ccl, cdd, .fields vs, ccs⟩) (lcc : K.lookup cc = some ⟨cl, cld, .cell (some (.ref C)), csl⟩)
    (cd : codeIn K (.ref cda) qual = true) (sa : findIn K (.ref C) "__setattr__" = some (some (.builtin "object.__setattr__"))) (eC : subIn K (.ref C) (.type "BaseException") = some true) (tC : typeIn K (.ref C) = some (.type "type")) (kC : keepIn K (.ref C) = true)
    (ga : findIn K (.ref C) "__getattribute__" = some (some (.builtin "BaseException.__getattribute__"))) (gg : findIn K (.ref C) "__getattr__" = some none) (hd : hasDictIn K C = true) (nof : findIn K (.ref C) f = some none) (tI : typeIn K (.ref fI) = some (.type "function"))
    (mro : mroIn K C (.ref C) = some true) (nosup : nsIn K mainGlobals "super" = some none) (sini : ks_superIn K C C "__init__" = some (some (.builtin "ValueError.__init__"))) (val : subIn K (.ref C) (.type "ValueError") = some true) (stat : nsIn K cStatics "thirdparty.any" = some none)
    (rf : PySem.HandSPX.refsVE bm = true) (v2 : vs[2]? = some (.str file tf)) (hfile : ((P.main.file : Str) == file) = true) (top : (P.main.scope.names.lookup ("super" : Str)).isSome = false)
    (S : LVX.SupScope ["self", p] ["self", p] (defScope st)) (hp : ((defArgs st).posonlyargs ++ (defArgs st).args).head? = some ar) (hself : ar.arg = "self")
    (hbody : defBody st = [.Expr (.Call (.Attribute (.Call (.Name "super" p0) [] [] p1) "__init__" p2) [.JoinedStr [.Constant (.str c1) j1 p10, .FormattedValue (.Name p p11) (-1) none p12, .Constant (.str c2) j2 p13] p17] [] p4) p5, .Assign [.Attribute (.Name "self" p6) f p7] (.Name p p8) p9])
    (hpd : (p == ("__debug__" : Str)) = false) (hpc : (p == ("__classdict__" : Str)) = false) (hev : SupEv p0 p1 p2 p4 (.JoinedStr [.Constant (.str c1) j1 p10, .FormattedValue (.Name p p11) (-1) none p12, .Constant (.str c2) j2 p13] p17) pl) (hsw : SupSw p0 p1 p2 p4 p5 (.JoinedStr [.Constant (.str c1) j1 p10, .FormattedValue (.Name p p11) (-1) none p12, .Constant (.str c2) j2 p13] p17))
    (b : ∀ us : List Value, us.length = (["self", p] : List Str).length → bindArgs (ksFn "__init__" qual (defArgs st) (defBody st) (defScope st) .none kV doc pm an (.ref cda) ct cc) ⟨us, []⟩ = pure ((["self", p] : List Str).zip us)) : XCls1I P w K mg base Cn f c1 c2 :=
  have T : OexC K C := ⟨⟨nm, q, N, bs, bm, sn, sub, ab, col, dd, k0, k1, k2, k3, k5, xL, rf⟩, sa, eC, tC, kC⟩
  ⟨C, fI, _, p, PySem.W.mg_of X G aC, ⟨T, ⟨ga, gg, eC, hd⟩, nof⟩, ini, tI,
    exc1I ⟨T, ⟨oc, od, kV, doc, pm, an, cda, cc, ct, osl, ccl, cdd, vs, ccs, file, tf, cl, cld, csl, rfl, lk, cd, lcd, v2, hfile, lcc⟩, mro, nosup, sini, val, stat, top⟩ S hp hself hbody nof hpd hpc hev hsw, .all b⟩
end
end LV
namespace L2
open PySem PySem.Spec PyProof.Rows
section
variable {X : Cx} {e : Expr} {es : List Expr} {ta : TA} {p pos : Pos} {CX : CXT} {x : Str} {C fI : Addr} {k : Nat} {fd : FuncData} {ps : List Str} {sp : Sp}
def tMkV (C : Addr) (sp : Sp) (ta : TA) : TE := fun σ H Q => ta σ H fun vs H1 => vs.length ≤ 1000 ∧ ∀ a, H1 a = none → sp (.ref a :: vs) (upd H1 a (exo a C none)) (fun v H2 => v = .non ∧ Q (.ref a) H2) (fun _ _ _ => False)
/-- the class is called, behind its arguments -/
theorem run_oexV {pins : List (Addr × Obj)} {s1 : Shared} {σ : St} {H1 : Hp} {Q : VK} {us : List Value} {vs : List V} (T : OexC X.K C) (iC : PySem.W.findIn X.K (.ref C) "__init__" = some (some (.ref fI))) (tI : PySem.W.typeIn X.K (.ref fI) = some (.type "function"))
    (F1 : FnOk X.prog X.w X.K X.mg X.base CX k fI fd ps sp) (hr : Room (k + 1) X.A) (hb : Binds X.K fd ps []) (hx : Passes CX X (fun _ _ _ => False)) (I1 : Inv X pins σ H1 s1) (r1 : Vals vs us) (hz : vs.length ≤ 1000)
    (q1 : ∀ a, H1 a = none → sp (.ref a :: vs) (upd H1 a (exo a C none)) (fun v H2 => v = .non ∧ Q (.ref a) H2) (fun _ _ _ => False)) :
    wpAny (model X.prog X.w) X.A (call (.ref C) us) (fun u s' => ∃ x H', Inv X pins σ H' s' ∧ RelV x u ∧ Q x H') X.xe s1 := by
  obtain ⟨nm, q, N, bs, bm, sn, sub, ab, col, dd, k0, k1, k2, k3, k5, hC, hbm⟩ := T.cls
  obtain ⟨hp, g, dr, tk, os⟩ := s1
  have hsz : hp.objs.size ≤ hp.objs.size + 1 := Nat.le_succ _
  have hn : H1 (hp.objs.size + 1) = none := I1.hok.fresh hsz
  have hq := q1 (hp.objs.size + 1) hn
  have kk : ∀ b o, hp.get? b = some o → ((hp.push (PySem.W.kdv_tup us)).push (PySem.HandSPX.excO C hp.objs.size)).get? b = some o := fun b o e => Heap.get?_push_of_some _ (Heap.get?_push_of_some _ e)
  have hget : ((hp.push (PySem.W.kdv_tup us)).push (PySem.HandSPX.excO C hp.objs.size)).get? (hp.objs.size + 1) = some (PySem.HandSPX.excO C hp.objs.size) := by heap_get
  have I2 : Inv X pins σ (upd H1 (hp.objs.size + 1) (exo (hp.objs.size + 1) C none)) ⟨(hp.push (PySem.W.kdv_tup us)).push (PySem.HandSPX.excO C hp.objs.size), g, dr, tk, os⟩ :=
    I1.laid (t' := tk) (a := hp.objs.size + 1) (o := exo (hp.objs.size + 1) C none) (h' := (hp.push (PySem.W.kdv_tup us)).push (PySem.HandSPX.excO C hp.objs.size)) kk hsz (exo_ok hget)
  have r2 : Vals (V.ref (hp.objs.size + 1) :: vs) (Value.ref (hp.objs.size + 1) :: us) := .cons rfl r1
  have hl : (Value.ref (hp.objs.size + 1) :: us ++ []).length = ps.length := by
    have e := r2.length
    rw [F1.len _ _ _ _ hq] at e
    rw [List.append_nil]
    exact e.symm
  have hus : us.length ≤ sizeLine := by
    rw [← Paired.length r1, sizeLine_eq]
    omega
  have hbb := hb _ (Value.ref (hp.objs.size + 1) :: us) I2.kIn hl
  rw [List.append_nil] at hbb
  refine wpAny_call (PySem.HandSPX.call_own F.excBase_ValueError (fun Y => PySem.HandSPX.refsVE_contains Y bm hbm) (I1.kIn _ _ hC) (PySem.W.looks_findIn I1.kIn iC) (fun self => PySem.W.bind_fn I1.kIn self tI) hus
    (codeAny_mono (F1.run _ X.stack _ _ ⟨Value.ref (hp.objs.size + 1) :: us, []⟩ (Value.ref (hp.objs.size + 1) :: us) _ _ (fun _ _ _ => False) (hr.make C us []) (I2.env0.make C us []) hbb r2 hq) fun r s' hq' => ?_))
  cases r with
  | error er => exact hx pins σ _ _ er s' I2 hq'
  | ok fl =>
    cases fl with
    | ret u =>
      obtain ⟨v, H2, os2, bare2, un2, hok2, rv, ev, q2⟩ := hq'
      subst ev
      exact ⟨rv, .ref (hp.objs.size + 1), H2, I2.call' (ch := []) os2 un2 hok2 bare2 (fun b z => absurd z (by simp)), rfl, q2⟩
    | next => exact False.elim hq'
    | brk => exact False.elim hq'
    | cont => exact False.elim hq'
theorem pe_oexV (T : OexC X.K C) (iC : PySem.W.findIn X.K (.ref C) "__init__" = some (some (.ref fI))) (tI : PySem.W.typeIn X.K (.ref fI) = some (.type "function"))
    (F1 : FnOk X.prog X.w X.K X.mg X.base CX k fI fd ps sp) (hr : Room (k + 1) X.A) (hb : Binds X.K fd ps []) (hx : Passes CX X (fun _ _ _ => False)) (hg : Gl X x) (hm : X.mg x = some (.ref C)) (ha : PA X (e :: es) ta)
    (hdb : (x == ("__debug__" : Str)) = false := by decide) (he : starEach (e :: es) X.env = (false, eval e X.env) :: starEach es X.env := by rfl) (hpl : (backTo pos (starEach es X.env)).any (·.1) = false := by rfl) :
    PE X (.Call (.Name x p) (e :: es) [] pos) (tMkV C sp ta) := by
  refine ⟨fun pins s σ H Q I h => ?_⟩
  refine wpAny_Call_Name_kw (ld_glob I hg hm ?_ hdb)
  refine PySem.W.callWith_K (h₀ := X.base) I.ok.mod.kin T.kC (thn (ha.run pos pins s σ H _ I h) fun us s1 ⟨vs, H1, I1, r1, hz, q1⟩ => ⟨I1.kIn, ?_⟩) he hpl
  exact run_oexV T iC tI F1 hr hb hx I1 r1 hz q1
/-- e.f of an error that is held -/
def tXv (K : PySem.W.Frag) (f : Str) (te : TE) : TE := fun σ H Q => te σ H fun x H1 => ∃ (a C dd : Addr) (fs : List (Str × V)) (v : V), x = .ref a ∧ XfC K C ∧ PySem.W.findIn K (.ref C) f = some none ∧ H1 a = some (exo a C (some dd)) ∧ H1 dd = some (exd dd fs) ∧ fs.lookup f = some v ∧ Q v H1
theorem pe_xv {te : TE} {n : Str} (he : PE X e te) (hb : attributeBase e n X.env (eval e X.env) = eval e X.env := by rfl) : PE X (.Attribute e n pos) (tXv X.K n te) := by
  refine ⟨fun pins s σ H Q I h => ?_⟩
  refine attr_of hb (thn (he.run pins s σ H _ I h) fun u s1 hh => ?_)
  obtain ⟨x, H1, I1, rx, a, C, dd, fs, v, ex, T, hno, ea, ed, l, q⟩ := hh
  subst ex
  obtain rfl : u = Value.ref a := rx
  obtain ⟨t1, ho⟩ := exo_at I1.hok ea
  obtain ⟨mA, hns, hr⟩ := exd_at I1.hok ed
  obtain ⟨od, hod, hl⟩ := lookIn_ns hns
  obtain ⟨u, hu, ru⟩ := RelO.some_of (v := v) (o := mA n) (by rw [← l]; exact hr n)
  have J : PySem.W.InstAt s1.heap a _ C (some od) := ⟨ho, rfl, rfl, hod⟩
  exact HandSPX.exc_get I1.kIn J T.ga T.gg T.exC (PySem.W.findObj_own T.hdC hno rfl (by rw [hl, hu])) (handed_of ru) ⟨v, H1, I1.tok _, ru, q⟩
/-- isinstance of an error that is held -/
def rIsV (K : PySem.W.Frag) : List V → Hp → VK → Prop := fun xs H Q => ∃ (a D : Addr) (c : V) (cv : Value) (b : Bool), ExcC K D ∧ (H a = some (exo a D none) ∨ ∃ dd fs, H a = some (exo a D (some dd)) ∧ H dd = some (exd dd fs)) ∧ xs = [.ref a, c] ∧ (∀ u, RelV c u → u = cv) ∧ PySem.W.kitOne K (.ref D) cv = some b ∧ Q (.bl b) H
theorem call_isV {X : Cx} : CallR X (.builtin "isinstance") (rIsV X.K) := by
  intro pins s σ H xs us Q I r h
  obtain ⟨a, D, c, cv, b, C, hd, rfl, hcv, e, q⟩ := h
  cases r with
  | cons rx rr =>
    cases rr with
    | cons rt rr =>
      cases rr
      cases rx
      have ec := hcv _ rt
      subst ec
      have hcl : (PySem.W.clsIn X.K D).isSome = true := by
        obtain ⟨cd, hc, _⟩ := PySem.W.any_some C.hd
        rw [hc]; rfl
      have J : ∃ od oe, PySem.W.InstAt s.heap a oe D od := by
        rcases hd with ea | ⟨dd, fs, ea, ed⟩
        · obtain ⟨t1, ho⟩ := exo_at I.hok ea
          exact ⟨none, _, ho, rfl, rfl, trivial⟩
        · obtain ⟨t1, ho⟩ := exo_at I.hok ea
          obtain ⟨mA, hns, hr⟩ := exd_at I.hok ed
          obtain ⟨od, hod, hl⟩ := lookIn_ns hns
          exact ⟨some od, _, ho, rfl, rfl, hod⟩
      obtain ⟨od, oe, J⟩ := J
      exact PySem.W.kia_one (PySem.W.kitx_exc hcl C.hg C.hk C.hs C.ha C.hn C.ht C.hm) I.kIn J e (fun z => nomatch z) fun tk => ⟨.bl b, H, I.kept (t' := tk) fun _ _ z => z, rfl, q⟩
end
end L2
namespace LV
open PySem PySem.Spec L2
abbrev GX := List D → (List Str → List D → Prop) → Prop
/-- an own error class whose instances are made as values: what its __init__ asks and keeps -/
structure XV (P : Program) (w : World) (K : PySem.W.Frag) (mg : Str → Option Value) (base : Heap) (Cn : Str) (g : GX) : Prop where
  mo : ∀ {ds : List D} {Q Q' : List Str → List D → Prop}, (∀ ks vs, Q ks vs → Q' ks vs) → g ds Q → g ds Q'
  ln : ∀ (ds : List D) (Q : List Str → List D → Prop), g ds Q → ds.length ≤ 900
  ex : ∃ (C fI : Addr) (fd : FuncData) (ps : List Str) (sp : Sp), mg Cn = some (.ref C) ∧ OexC K C ∧ PySem.W.findIn K (.ref C) "__init__" = some (some (.ref fI)) ∧ PySem.W.typeIn K (.ref fI) = some (.type "function") ∧
    FnOk P w K mg base (L2.CX P w) 1 fI fd ps sp ∧ Binds K fd ps [] ∧
    ∀ (F H : Hp) (vs : List V) (ds : List D) (post : List Str → List D → Prop) (Q : Hp → Prop), Same F H → RepL ⟨K, mg, w⟩ F vs ds → g ds post → ∀ a, H a = none →
      (∀ F2 H2 ks us, post ks us → Evo Nob Nob F H F2 H2 → Same F2 H2 → Rep ⟨K, mg, w⟩ F2 (.ref a) (.exn Cn ks us) → Q H2) → sp (.ref a :: vs) (upd H a (exo a C none)) (fun v H2 => v = .non ∧ Q H2) (fun _ _ _ => False)
section
variable {M : Md} {F H : Hp} {a d C : Addr} {Cn : Str} {fv : List (Str × V)} {us : List D}
theorem exn_new (s : Same F H) (ha : H a = none) (hd : H d = none) (hda : d ≠ a) (hm : M.mg Cn = some (.ref C)) (r : RepL M F (fv.map (·.2)) us) :
    Evo Nob Nob F H (upd (upd F d (exd d fv)) a (exo a C (some d))) (upd (upd H d (exd d fv)) a (exo a C (some d))) ∧ Same (upd (upd F d (exd d fv)) a (exo a C (some d))) (upd (upd H d (exd d fv)) a (exo a C (some d))) ∧ Rep M (upd (upd F d (exd d fv)) a (exo a C (some d))) (.ref a) (.exn Cn (fv.map (·.1)) us) := by
  have hFd := s.free hd
  have e1 := Evo.newF (o := exd d fv) hd hFd
  have s1 := same_newF (o := exd d fv) s hd
  have ha1 : upd H d (exd d fv) a = none := by rw [upd_ne (Ne.symm hda)]; exact ha
  have e2 := Evo.newF (o := exo a C (some d)) ha1 (s1.free ha1)
  have s2 := same_newF (o := exo a C (some d)) s1 ha1
  have e := e1.trans e2
  exact ⟨e, s2, .exn hm upd_same (by rw [upd_ne hda, upd_same]) rfl (r.same e.fs)⟩
theorem upd_exn {u o o' : HO} (hda : d ≠ a) : upd (upd (upd H a u) d o) a o' = upd (upd H d o) a o' := by
  funext b
  by_cases h1 : b = a
  · rw [h1, upd_same, upd_same]
  · rw [upd_ne h1, upd_ne h1]
    by_cases h2 : b = d
    · rw [h2, upd_same, upd_same]
    · rw [upd_ne h2, upd_ne h2, upd_ne h1]
/-- the end of an __init__ that has laid its dict -/
theorem exn_end {P : List Str → List D → Prop} {Q : Hp → Prop} (s : Same F H) (ha : H a = none) (hm : M.mg Cn = some (.ref C)) (r : RepL M F (fv.map (·.2)) us) (p : P (fv.map (·.1)) us)
    (q : ∀ F2 H2 ks us, P ks us → Evo Nob Nob F H F2 H2 → Same F2 H2 → Rep M F2 (.ref a) (.exn Cn ks us) → Q H2) :
    ∀ d, upd H a (exo a C none) d = none → d ≠ a → V.non = V.non ∧ Q (upd (upd (upd H a (exo a C none)) d (exd d fv)) a (exo a C (some d))) := fun d hd hda => by
  rw [upd_ne hda] at hd
  obtain ⟨e, s2, rp⟩ := exn_new (fv := fv) s ha hd hda hm r
  rw [upd_exn hda]
  exact ⟨rfl, q _ _ _ _ p e s2 rp⟩
end
def gX1 (f : Str) : GX := fun ds Q => ∃ d, ds = [d] ∧ Q [f] [d]
def gX1F (f c1 c2 : Str) : GX := fun ds Q => ∃ s, ds = [.str s] ∧ s.length ≤ sizeLine ∧ okMsg1 c1 c2 s ∧ Q [f] [.str s]
def gX1I (f c1 c2 : Str) : GX := fun ds Q => ∃ i, ds = [.int i] ∧ i.natAbs.log2 < 1920 ∧ okMsg1 c1 c2 (toString i) ∧ Q [f] [.int i]
def gX2 (f g c1 c2 c3 : Str) : GX := fun ds Q => ∃ s i, ds = [.str s, .int i] ∧ s.length ≤ sizeLine ∧ i.natAbs.log2 < 1920 ∧ okMsg c1 c2 c3 s (toString i) ∧ Q [g, f] [.int i, .str s]
section
variable {P : Program} {w : World} {K : PySem.W.Frag} {mg : Str → Option Value} {base : Heap} {Cn f g c1 c2 c3 : Str}
theorem XCls.xv (T : XCls P w K mg base Cn f) : XV P w K mg base Cn (gX1 f) where
  mo := fun h ⟨d, a, q⟩ => ⟨d, a, h _ _ q⟩
  ln := fun ds Q ⟨d, a, _⟩ => by rw [a]; show 1 ≤ 900; decide
  ex := by
    obtain ⟨C, fI, fd, p, hm, ⟨To, _⟩, iC, tI, F1, hb⟩ := T.ex
    refine ⟨C, fI, fd, _, _, hm, To, iC, tI, F1, hb, fun F H vs ds post Q s r ⟨d, e, q⟩ a ha hq => ?_⟩
    subst e
    cases r with
    | @cons v _ _ _ rv rl =>
      cases rl
      exact ⟨a, v, rfl, upd_same, exn_end (fv := [(f, v)]) s ha hm (.cons rv .nil) q hq⟩
theorem XCls1F.xv (T : XCls1F P w K mg base Cn f c1 c2) : XV P w K mg base Cn (gX1F f c1 c2) where
  mo := fun h ⟨d, a, b, c, q⟩ => ⟨d, a, b, c, h _ _ q⟩
  ln := fun ds Q ⟨d, a, _⟩ => by rw [a]; show 1 ≤ 900; decide
  ex := by
    obtain ⟨C, fI, fd, p, hm, ⟨To, _⟩, iC, tI, F1, hb⟩ := T.ex
    refine ⟨C, fI, fd, _, _, hm, To, iC, tI, F1, hb, fun F H vs ds post Q s r ⟨d, e, h1, h2, q⟩ a ha hq => ?_⟩
    subst e
    cases r with
    | @cons v _ _ _ rv rl =>
      cases rl
      cases rv
      exact ⟨a, d, rfl, upd_same, h1, h2, exn_end (fv := [(f, .str d)]) s ha hm (.cons (.str _) .nil) q hq⟩
theorem XCls1I.xv (T : XCls1I P w K mg base Cn f c1 c2) : XV P w K mg base Cn (gX1I f c1 c2) where
  mo := fun h ⟨d, a, b, c, q⟩ => ⟨d, a, b, c, h _ _ q⟩
  ln := fun ds Q ⟨d, a, _⟩ => by rw [a]; show 1 ≤ 900; decide
  ex := by
    obtain ⟨C, fI, fd, p, hm, ⟨To, _⟩, iC, tI, F1, hb⟩ := T.ex
    refine ⟨C, fI, fd, _, _, hm, To, iC, tI, F1, hb, fun F H vs ds post Q s r ⟨d, e, h1, h2, q⟩ a ha hq => ?_⟩
    subst e
    cases r with
    | @cons v _ _ _ rv rl =>
      cases rl
      cases rv
      exact ⟨a, d, rfl, upd_same, h1, h2, exn_end (fv := [(f, .int d)]) s ha hm (.cons (.int _) .nil) q hq⟩
theorem XCls2.xv (T : XCls2 P w K mg base Cn f g c1 c2 c3) : XV P w K mg base Cn (gX2 f g c1 c2 c3) where
  mo := fun h ⟨d, i, a, b, c, e, q⟩ => ⟨d, i, a, b, c, e, h _ _ q⟩
  ln := fun ds Q ⟨d, i, a, _⟩ => by rw [a]; show 2 ≤ 900; decide
  ex := by
    obtain ⟨C, fI, fd, p, p2, hm, ⟨To, _⟩, iC, tI, F1, hb⟩ := T.ex
    refine ⟨C, fI, fd, _, _, hm, To, iC, tI, F1, hb, fun F H vs ds post Q s r ⟨d, i, e, h1, h2, h3, q⟩ a ha hq => ?_⟩
    subst e
    cases r with
    | @cons v _ _ _ rv rl =>
      cases rl with
      | cons rv2 rl =>
        cases rl
        cases rv
        cases rv2
        exact ⟨a, d, i, rfl, upd_same, h1, h2, h3, exn_end (fv := [(g, .int i), (f, .str d)]) s ha hm (.cons (.int _) (.cons (.str _) .nil)) q hq⟩
end
section
variable {X : Cx} {c : Ct} {W : WX} {e : Expr} {es : List Expr} {w : EW} {wl : AW} {p px p2 pos : Pos} {Cn n x : Str} {g : GX} {Cs : List Str} {Ct' : List (Str × Bool)}
/-- Cn(..) as a value -/
def wMkX (Cn : Str) (g : GX) (wl : AW) : EW := fun env Q E => wl env (fun rs e => ∃ ds e2, frzL e rs = some (ds, e2) ∧ g ds (fun ks vs => Q (.fz (.exn Cn ks vs)) e2)) E
theorem se_mkX (T : XV X.prog X.w X.K X.mg X.base Cn g) (hr : Room 2 X.A) (hg : Gl X Cn) (ha : SA X c W (e :: es) wl) (hdb : (Cn == ("__debug__" : Str)) = false := by decide)
    (he : starEach (e :: es) X.env = (false, eval e X.env) :: starEach es X.env := by rfl) (hpl : (backTo pos (starEach es X.env)).any (·.1) = false := by rfl) :
    SE X c W (.Call (.Name Cn p) (e :: es) [] pos) (wMkX Cn g wl) := by
  obtain ⟨C, fI, fd, ps, sp, hm, To, iC, tI, F1, hb, hsp⟩ := T.ex
  refine ⟨PE.imp (pe_oexV To iC tI F1 hr hb passL hg hm ha.pa hdb he hpl) fun σ H Q q => ?_, ⟨fun hQ hE h => ha.mo.mo (fun rs e ⟨ds, e2, a, z⟩ => ⟨ds, e2, a, T.mo (fun _ _ z => hQ _ _ z) z⟩) hE h⟩⟩
  obtain ⟨F, env, R, q⟩ := q
  refine ⟨F, env, R, ha.mo.mo (fun rs e1 ⟨ds, e2, hf, z⟩ => ?_) (fun _ _ z => z) q⟩
  intro vs F1 H1 R1 ev1 ok
  obtain ⟨F2, R2, ev2, rl⟩ := frzL_ok R1 ok hf
  refine ⟨by have := T.ln _ _ z; rw [rl.length]; omega, fun a hna => hsp F2 H1 vs ds _ _ R2.sub rl z a hna fun F3 H3 ks us hp ev3 s3 rp => ?_⟩
  exact hp (.ref a) F3 H3 (R2.evo ev3 s3) ((ev1.trans ev2).trans ev3.nob) rp
/-- e.f, e an error that is held -/
def wXf (f : Str) (Cs : List Str) (w : EW) : EW := fun env Q E => wFz w env (fun r e => ∃ C ks vs d, look e r = some (.exn C ks vs) ∧ C ∈ Cs ∧ kvD ks vs f = some d ∧ Q (.fz d) e) E
theorem se_xf (h : SE X c W e w) (T : ∀ C ∈ Cs, XfA X.K X.mg C n) (hb : attributeBase e n X.env (eval e X.env) = eval e X.env := by rfl) : SE X c W (.Attribute e n pos) (wXf n Cs w) := by
  refine ⟨PE.imp (pe_xv h.pe hb) fun σ H Q q => ?_, ⟨fun hQ hE q => h.mo.fz.mo (fun r e ⟨C, ks, vs, d, a, b, k, q⟩ => ⟨C, ks, vs, d, a, b, k, hQ _ _ q⟩) hE q⟩⟩
  obtain ⟨F, env, R, q⟩ := q
  refine opd h.mo R q fun r e' v F' H' R' ev ok ⟨C, ks, vs, d, l, hC, hk, z⟩ => ?_
  obtain ⟨a, c2, rfl, hm, hx⟩ := ok.vw R' l
  obtain ⟨D, h1, h3, h4⟩ := T C hC
  have hm' : X.mg C = some (.ref c2) := hm
  have : D = c2 := by have := h1.symm.trans hm'; injection this with e; injection e
  subst this
  rcases hx with ⟨dx, fv, e1, e2, e3, e4⟩ | ⟨_, e3, _⟩
  · obtain ⟨v, l, rv⟩ := kvD_get e3 e4 hk
    exact ⟨a, D, dx, fv, v, rfl, h3, h4, R'.sub _ _ e1, R'.sub _ _ e2, l, z v F' H' R' ev rv⟩
  · subst e3; simp [kvD] at hk
/-- isinstance(e, x), e an error that is held -/
def wIsV (Cs : List (Str × Bool)) (w : EW) : EW := fun env Q E => wFz w env (fun r e => ∃ C ks vs b, look e r = some (.exn C ks vs) ∧ Cs.lookup C = some b ∧ Q (.fz (.bl b)) e) E
theorem se_isV (h : SE X c W e w) (T : XisF X.K X.mg x Ct') (hg : Gl X "isinstance") (hm : X.mg "isinstance" = none) (hgx : Gl X x) (hdx : (x == ("__debug__" : Str)) = false := by decide)
    (hb : bootBuiltins "isinstance" = some (.builtin "isinstance") := by with_unfolding_all rfl)
    (hs1 : starEach [e, .Name x p2] X.env = (false, eval e X.env) :: starEach [.Name x p2] X.env := by rfl) (hs2 : starEach [.Name x p2] X.env = (false, eval (.Name x p2) X.env) :: starEach [] X.env := by rfl) (hpl : (backTo pos (starEach [.Name x p2] X.env)).any (·.1) = false := by rfl) :
    SE X c W (.Call (.Name "isinstance" p) [e, .Name x p2] [] pos) (wIsV Ct' w) := by
  obtain ⟨v, cv, ht, hF⟩ := T.ex
  have hto : PE X (.Name x p2) (tC v) := by
    cases ht with
    | own h => exact pe_glob (v := .ref _) hgx h rfl hdx
    | bltn h hb hn => exact pe_bltn (v := .ty _) hgx h hb rfl hn hdx
  have hrel : ∀ u, RelV v u → u = cv := by
    cases ht with
    | own h => exact fun u hu => hu
    | bltn h hb hn => exact fun u hu => hu
  refine ⟨PE.imp (pe_callB call_isV hg hm hb (pa_cons h.pe (pa_cons hto pa_nil hs2) hs1) (by decide) (by decide) hs1 hpl) fun σ H Q q => ?_, ⟨fun hQ hE q => h.mo.fz.mo (fun r e ⟨C, ks, vs, d, a, b, q⟩ => ⟨C, ks, vs, d, a, b, hQ _ _ q⟩) hE q⟩⟩
  obtain ⟨F, env, R, q⟩ := q
  refine opd h.mo R q fun r e' v F' H' R' ev ok ⟨C, ks, vs, b, l, hl, z⟩ => ?_
  obtain ⟨a, c2, rfl, hm2, hx⟩ := ok.vw R' l
  obtain ⟨D, hD, eC, ek⟩ := hF.ex _ (lookup_memX hl)
  have hm' : X.mg C = some (.ref c2) := hm2
  have : D = c2 := by have := hD.symm.trans hm'; injection this with e; injection e
  subst this
  refine ⟨a, D, _, cv, b, eC, ?_, rfl, hrel, ek, z (.bl b) F' H' R' ev (.bl b)⟩
  rcases hx with ⟨dx, fv, e1, e2, _, _⟩ | ⟨e1, _, _⟩
  · exact .inr ⟨dx, fv, R'.sub _ _ e1, R'.sub _ _ e2⟩
  · exact .inl (R'.sub _ _ e1)
end
end LV
namespace LV
open PySem PySem.Spec L2
def okMsgE (c1 s : Str) : Prop := (Str.empty ++ c1).length ≤ sizeLine ∧ (Str.empty ++ c1 ++ s).length ≤ sizeLine
def spX1E (C : Addr) (f c1 : Str) : Sp := fun vs H Q _ => ∃ (a : Addr) (s : Str), vs = [.ref a, .str s] ∧ H a = some (exo a C none) ∧ s.length ≤ sizeLine ∧ okMsgE c1 s ∧
  ∀ d, H d = none → d ≠ a → Q .non (upd (upd H d (exd d [(f, .str s)])) a (exo a C (some d)))
theorem exc1E {P : Program} {w : World} {K : PySem.W.Frag} {mg : Str → Option Value} {base : Heap} {C fI : Addr} {name qual : Str} {params : Arguments} {body : List Stmt} {scope : Scope} {fd : FuncData} {p f c1 : Str} {CX : CXT} {j1 : Nat} {pl : Env → Sem Bool} {p0 p1 p2 p4 p5 p6 p7 p8 p9 p10 p11 p12 p17 : Pos} {ar : Arg}
    (G : LVX.ExcF P K C fI name qual params body scope fd) (S : LVX.SupScope ["self", p] ["self", p] scope) (hp : (params.posonlyargs ++ params.args).head? = some ar) (hself : ar.arg = "self")
    (hbody : body = [.Expr (.Call (.Attribute (.Call (.Name "super" p0) [] [] p1) "__init__" p2) [.JoinedStr [.Constant (.str c1) j1 p10, .FormattedValue (.Name p p11) (-1) none p12] p17] [] p4) p5,
      .Assign [.Attribute (.Name "self" p6) f p7] (.Name p p8) p9])
    (hno : PySem.W.findIn K (.ref C) f = some none) (hpd : (p == ("__debug__" : Str)) = false) (hpc : (p == ("__classdict__" : Str)) = false)
    (hev : SupEv p0 p1 p2 p4 (.JoinedStr [.Constant (.str c1) j1 p10, .FormattedValue (.Name p p11) (-1) none p12] p17) pl)
    (hsw : SupSw p0 p1 p2 p4 p5 (.JoinedStr [.Constant (.str c1) j1 p10, .FormattedValue (.Name p p11) (-1) none p12] p17)) : FnOk P w K mg base CX 1 fI fd ["self", p] (spX1E C f c1) := by
  refine LVX.exc_init (hev := hev) (hsw := hsw) (k := 0) G S hp (by rw [hself]; rfl) hbody (fun vs H Q E ⟨a, s, h, _⟩ => by rw [h]; rfl) (fun cdv cc A outer s H vs Q E hr ⟨a, x, hvs, ha, hx, hm, hq⟩ => ?_) (fun _ => rfl)
  subst hvs
  have e0 := S.par "self" (by simp)
  have e1 := S.par p (by simp)
  refine ⟨a, _, _, rfl, ha, pe_joined (.cons pe_str (.cons (pe_fmt (pe_var (i := 1) rfl (.inl e1) hpd hpc)) .nil)), pss_one (ps_ost (pe_var (i := 0) rfl (.inl e0)) (pe_var (i := 1) rfl (.inl e1) hpd hpc)), ?_⟩
  obtain ⟨m1, m2⟩ := hm
  refine ⟨c1, rfl, m1, .str x, rfl, .inl ⟨x, rfl, hx, x, rfl, m2, ⟨_, rfl⟩, ha, ?_⟩⟩
  exact ⟨.str x, rfl, .ref a, rfl, a, C, rfl, G.T, hno, .inl ⟨ha, fun dx n ne => hq dx n ne⟩⟩
def spX1J (C : Addr) (f c1 : Str) : Sp := fun vs H Q _ => ∃ (a : Addr) (s : Int), vs = [.ref a, .int s] ∧ H a = some (exo a C none) ∧ s.natAbs.log2 < 1920 ∧ okMsgE c1 (toString s) ∧
  ∀ d, H d = none → d ≠ a → Q .non (upd (upd H d (exd d [(f, .int s)])) a (exo a C (some d)))
theorem exc1J {P : Program} {w : World} {K : PySem.W.Frag} {mg : Str → Option Value} {base : Heap} {C fI : Addr} {name qual : Str} {params : Arguments} {body : List Stmt} {scope : Scope} {fd : FuncData} {p f c1 : Str} {CX : CXT} {j1 : Nat} {pl : Env → Sem Bool} {p0 p1 p2 p4 p5 p6 p7 p8 p9 p10 p11 p12 p17 : Pos} {ar : Arg}
    (G : LVX.ExcF P K C fI name qual params body scope fd) (S : LVX.SupScope ["self", p] ["self", p] scope) (hp : (params.posonlyargs ++ params.args).head? = some ar) (hself : ar.arg = "self")
    (hbody : body = [.Expr (.Call (.Attribute (.Call (.Name "super" p0) [] [] p1) "__init__" p2) [.JoinedStr [.Constant (.str c1) j1 p10, .FormattedValue (.Name p p11) (-1) none p12] p17] [] p4) p5,
      .Assign [.Attribute (.Name "self" p6) f p7] (.Name p p8) p9])
    (hno : PySem.W.findIn K (.ref C) f = some none) (hpd : (p == ("__debug__" : Str)) = false) (hpc : (p == ("__classdict__" : Str)) = false)
    (hev : SupEv p0 p1 p2 p4 (.JoinedStr [.Constant (.str c1) j1 p10, .FormattedValue (.Name p p11) (-1) none p12] p17) pl)
    (hsw : SupSw p0 p1 p2 p4 p5 (.JoinedStr [.Constant (.str c1) j1 p10, .FormattedValue (.Name p p11) (-1) none p12] p17)) : FnOk P w K mg base CX 1 fI fd ["self", p] (spX1J C f c1) := by
  refine LVX.exc_init (hev := hev) (hsw := hsw) (k := 0) G S hp (by rw [hself]; rfl) hbody (fun vs H Q E ⟨a, s, h, _⟩ => by rw [h]; rfl) (fun cdv cc A outer s H vs Q E hr ⟨a, x, hvs, ha, hx, hm, hq⟩ => ?_) (fun _ => rfl)
  subst hvs
  have e0 := S.par "self" (by simp)
  have e1 := S.par p (by simp)
  refine ⟨a, _, _, rfl, ha, pe_joined (.cons pe_str (.cons (pe_fmt (pe_var (i := 1) rfl (.inl e1) hpd hpc)) .nil)), pss_one (ps_ost (pe_var (i := 0) rfl (.inl e0)) (pe_var (i := 1) rfl (.inl e1) hpd hpc)), ?_⟩
  obtain ⟨m1, m2⟩ := hm
  refine ⟨c1, rfl, m1, .int x, rfl, .inr ⟨x, rfl, hx, toString x, rfl, m2, ⟨_, rfl⟩, ha, ?_⟩⟩
  exact ⟨.int x, rfl, .ref a, rfl, a, C, rfl, G.T, hno, .inl ⟨ha, fun dx n ne => hq dx n ne⟩⟩
structure XCls1J (P : Program) (w : World) (K : PySem.W.Frag) (mg : Str → Option Value) (base : Heap) (Cn f c1 : Str) : Prop where
  ex : ∃ (C fI : Addr) (fd : FuncData) (p : Str), mg Cn = some (.ref C) ∧ (OexC K C ∧ XfC K C ∧ PySem.W.findIn K (.ref C) f = some none) ∧ PySem.W.findIn K (.ref C) "__init__" = some (some (.ref fI)) ∧ PySem.W.typeIn K (.ref fI) = some (.type "function") ∧
    FnOk P w K mg base (L2.CX P w) 1 fI fd ["self", p] (spX1J C f c1) ∧ Binds K fd ["self", p] []
structure XCls1E (P : Program) (w : World) (K : PySem.W.Frag) (mg : Str → Option Value) (base : Heap) (Cn f c1 : Str) : Prop where
  ex : ∃ (C fI : Addr) (fd : FuncData) (p : Str), mg Cn = some (.ref C) ∧ (OexC K C ∧ XfC K C ∧ PySem.W.findIn K (.ref C) f = some none) ∧ PySem.W.findIn K (.ref C) "__init__" = some (some (.ref fI)) ∧ PySem.W.typeIn K (.ref fI) = some (.type "function") ∧
    FnOk P w K mg base (L2.CX P w) 1 fI fd ["self", p] (spX1E C f c1) ∧ Binds K fd ["self", p] []
section
open PySem.W
variable {P : Program} {w : World} {K : PySem.W.Frag} {mg : Str → Option Value} {base h : Heap}
theorem XCls1J.xfa {Cn f c1 : Str} (T : XCls1J P w K mg base Cn f c1) : XfA K mg Cn f :=
  let ⟨D, _, _, _, h1, ⟨_, h3, h4⟩, _⟩ := T.ex
  ⟨D, h1, h3, h4⟩
theorem x_mk1J {Cn f nm q qual file : Str} {st : Stmt} {C N fI cda cc : Addr} {bs bm : List Value} {sn sub ab col dd k0 k1 k2 k3 k5 : _} {oc kV doc pm ct ccl cl : Value} {od an cdd cld : Option Addr} {osl ccs csl : Array (Option Value)} {vs : Array Value} {tf : Tok} {p c1 : Str} {j1 : Nat} {pl : Env → Sem Bool} {p0 p1 p2 p4 p5 p6 p7 p8 p9 p10 p11 p12 p17 : Pos} {ar : Arg}
    (X : K.In h) (G : h.Ns mainGlobals mg) (aC : nsIn K mainGlobals Cn = some (some (.ref C))) (xL : K.lookup C = some (excClassObj nm q C N bs bm true sn sub ab col dd k0 k1 k2 k3 k5 "ValueError.__new__"))
    (ini : findIn K (.ref C) "__init__" = some (some (.ref fI)))
    (lk : K.lookup fI = some ⟨oc, od, .func (ksFn "__init__" qual (defArgs st) (defBody st) (defScope st) .none kV doc pm an (.ref cda) ct cc), osl⟩) (lcd : K.lookup cda = some ⟨ccl, cdd, .fields vs, ccs⟩) (lcc : K.lookup cc = some ⟨cl, cld, .cell (some (.ref C)), csl⟩)
    (cd : codeIn K (.ref cda) qual = true) (sa : findIn K (.ref C) "__setattr__" = some (some (.builtin "object.__setattr__"))) (eC : subIn K (.ref C) (.type "BaseException") = some true) (tC : typeIn K (.ref C) = some (.type "type")) (kC : keepIn K (.ref C) = true)
    (ga : findIn K (.ref C) "__getattribute__" = some (some (.builtin "BaseException.__getattribute__"))) (gg : findIn K (.ref C) "__getattr__" = some none) (hd : hasDictIn K C = true) (nof : findIn K (.ref C) f = some none) (tI : typeIn K (.ref fI) = some (.type "function"))
    (mro : mroIn K C (.ref C) = some true) (nosup : nsIn K mainGlobals "super" = some none) (sini : ks_superIn K C C "__init__" = some (some (.builtin "ValueError.__init__"))) (val : subIn K (.ref C) (.type "ValueError") = some true) (stat : nsIn K cStatics "thirdparty.any" = some none)
    (rf : PySem.HandSPX.refsVE bm = true) (v2 : vs[2]? = some (.str file tf)) (hfile : ((P.main.file : Str) == file) = true) (top : (P.main.scope.names.lookup ("super" : Str)).isSome = false)
    (S : LVX.SupScope ["self", p] ["self", p] (defScope st)) (hp : ((defArgs st).posonlyargs ++ (defArgs st).args).head? = some ar) (hself : ar.arg = "self")
    (hbody : defBody st = [.Expr (.Call (.Attribute (.Call (.Name "super" p0) [] [] p1) "__init__" p2) [.JoinedStr [.Constant (.str c1) j1 p10, .FormattedValue (.Name p p11) (-1) none p12] p17] [] p4) p5, .Assign [.Attribute (.Name "self" p6) f p7] (.Name p p8) p9])
    (hpd : (p == ("__debug__" : Str)) = false) (hpc : (p == ("__classdict__" : Str)) = false) (hev : SupEv p0 p1 p2 p4 (.JoinedStr [.Constant (.str c1) j1 p10, .FormattedValue (.Name p p11) (-1) none p12] p17) pl) (hsw : SupSw p0 p1 p2 p4 p5 (.JoinedStr [.Constant (.str c1) j1 p10, .FormattedValue (.Name p p11) (-1) none p12] p17))
    (b : ∀ us : List Value, us.length = (["self", p] : List Str).length → bindArgs (ksFn "__init__" qual (defArgs st) (defBody st) (defScope st) .none kV doc pm an (.ref cda) ct cc) ⟨us, []⟩ = pure ((["self", p] : List Str).zip us)) : XCls1J P w K mg base Cn f c1 :=
  have T : OexC K C := ⟨⟨nm, q, N, bs, bm, sn, sub, ab, col, dd, k0, k1, k2, k3, k5, xL, rf⟩, sa, eC, tC, kC⟩
  ⟨C, fI, _, p, PySem.W.mg_of X G aC, ⟨T, ⟨ga, gg, eC, hd⟩, nof⟩, ini, tI,
    exc1J ⟨T, ⟨oc, od, kV, doc, pm, an, cda, cc, ct, osl, ccl, cdd, vs, ccs, file, tf, cl, cld, csl, rfl, lk, cd, lcd, v2, hfile, lcc⟩, mro, nosup, sini, val, stat, top⟩ S hp hself hbody nof hpd hpc hev hsw, .all b⟩
theorem XCls1E.xfa {Cn f c1 : Str} (T : XCls1E P w K mg base Cn f c1) : XfA K mg Cn f :=
  let ⟨D, _, _, _, h1, ⟨_, h3, h4⟩, _⟩ := T.ex
  ⟨D, h1, h3, h4⟩
theorem x_mk1E {Cn f nm q qual file : Str} {st : Stmt} {C N fI cda cc : Addr} {bs bm : List Value} {sn sub ab col dd k0 k1 k2 k3 k5 : _} {oc kV doc pm ct ccl cl : Value} {od an cdd cld : Option Addr} {osl ccs csl : Array (Option Value)} {vs : Array Value} {tf : Tok} {p c1 : Str} {j1 : Nat} {pl : Env → Sem Bool} {p0 p1 p2 p4 p5 p6 p7 p8 p9 p10 p11 p12 p17 : Pos} {ar : Arg}
    (X : K.In h) (G : h.Ns mainGlobals mg) (aC : nsIn K mainGlobals Cn = some (some (.ref C))) (xL : K.lookup C = some (excClassObj nm q C N bs bm true sn sub ab col dd k0 k1 k2 k3 k5 "ValueError.__new__"))
    (ini : findIn K (.ref C) "__init__" = some (some (.ref fI)))
    (lk : K.lookup fI = some ⟨oc, od, .func (ksFn "__init__" qual (defArgs st) (defBody st) (defScope st) .none kV doc pm an (.ref cda) ct cc), osl⟩) (lcd : K.lookup cda = some ⟨ccl, cdd, .fields vs, ccs⟩) (lcc : K.lookup cc = some ⟨cl, cld, .cell (some (.ref C)), csl⟩)
    (cd : codeIn K (.ref cda) qual = true) (sa : findIn K (.ref C) "__setattr__" = some (some (.builtin "object.__setattr__"))) (eC : subIn K (.ref C) (.type "BaseException") = some true) (tC : typeIn K (.ref C) = some (.type "type")) (kC : keepIn K (.ref C) = true)
    (ga : findIn K (.ref C) "__getattribute__" = some (some (.builtin "BaseException.__getattribute__"))) (gg : findIn K (.ref C) "__getattr__" = some none) (hd : hasDictIn K C = true) (nof : findIn K (.ref C) f = some none) (tI : typeIn K (.ref fI) = some (.type "function"))
    (mro : mroIn K C (.ref C) = some true) (nosup : nsIn K mainGlobals "super" = some none) (sini : ks_superIn K C C "__init__" = some (some (.builtin "ValueError.__init__"))) (val : subIn K (.ref C) (.type "ValueError") = some true) (stat : nsIn K cStatics "thirdparty.any" = some none)
    (rf : PySem.HandSPX.refsVE bm = true) (v2 : vs[2]? = some (.str file tf)) (hfile : ((P.main.file : Str) == file) = true) (top : (P.main.scope.names.lookup ("super" : Str)).isSome = false)
    (S : LVX.SupScope ["self", p] ["self", p] (defScope st)) (hp : ((defArgs st).posonlyargs ++ (defArgs st).args).head? = some ar) (hself : ar.arg = "self")
    (hbody : defBody st = [.Expr (.Call (.Attribute (.Call (.Name "super" p0) [] [] p1) "__init__" p2) [.JoinedStr [.Constant (.str c1) j1 p10, .FormattedValue (.Name p p11) (-1) none p12] p17] [] p4) p5, .Assign [.Attribute (.Name "self" p6) f p7] (.Name p p8) p9])
    (hpd : (p == ("__debug__" : Str)) = false) (hpc : (p == ("__classdict__" : Str)) = false) (hev : SupEv p0 p1 p2 p4 (.JoinedStr [.Constant (.str c1) j1 p10, .FormattedValue (.Name p p11) (-1) none p12] p17) pl) (hsw : SupSw p0 p1 p2 p4 p5 (.JoinedStr [.Constant (.str c1) j1 p10, .FormattedValue (.Name p p11) (-1) none p12] p17))
    (b : ∀ us : List Value, us.length = (["self", p] : List Str).length → bindArgs (ksFn "__init__" qual (defArgs st) (defBody st) (defScope st) .none kV doc pm an (.ref cda) ct cc) ⟨us, []⟩ = pure ((["self", p] : List Str).zip us)) : XCls1E P w K mg base Cn f c1 :=
  have T : OexC K C := ⟨⟨nm, q, N, bs, bm, sn, sub, ab, col, dd, k0, k1, k2, k3, k5, xL, rf⟩, sa, eC, tC, kC⟩
  ⟨C, fI, _, p, PySem.W.mg_of X G aC, ⟨T, ⟨ga, gg, eC, hd⟩, nof⟩, ini, tI,
    exc1E ⟨T, ⟨oc, od, kV, doc, pm, an, cda, cc, ct, osl, ccl, cdd, vs, ccs, file, tf, cl, cld, csl, rfl, lk, cd, lcd, v2, hfile, lcc⟩, mro, nosup, sini, val, stat, top⟩ S hp hself hbody nof hpd hpc hev hsw, .all b⟩
end
end LV
namespace LV
open PySem PySem.Spec L2
def spX0 (C : Addr) : Sp := fun vs H Q _ => ∃ a : Addr, vs = [.ref a] ∧ H a = some (exo a C none) ∧ Q .non H
theorem exc0 {P : Program} {w : World} {K : PySem.W.Frag} {mg : Str → Option Value} {base : Heap} {C fI : Addr} {name qual : Str} {params : Arguments} {body : List Stmt} {scope : Scope} {fd : FuncData} {msg : Str} {CX : CXT} {j : Nat} {pl : Env → Sem Bool} {p0 p1 p2 p3 p4 p5 : Pos} {ar : Arg}
    (G : LVX.ExcF P K C fI name qual params body scope fd) (S : LVX.SupScope ["self"] ["self"] scope) (hp : (params.posonlyargs ++ params.args).head? = some ar) (hself : ar.arg = "self")
    (hbody : body = [.Expr (.Call (.Attribute (.Call (.Name "super" p0) [] [] p1) "__init__" p2) [.Constant (.str msg) j p3] [] p4) p5])
    (hev : SupEv p0 p1 p2 p4 (.Constant (.str msg) j p3) pl) (hsw : SupSw p0 p1 p2 p4 p5 (.Constant (.str msg) j p3)) : FnOk P w K mg base CX 1 fI fd ["self"] (spX0 C) := by
  refine LVX.exc_init (hev := hev) (hsw := hsw) (k := 0) G S hp (by rw [hself]; rfl) hbody (fun vs H Q E ⟨a, h, _⟩ => by rw [h]; rfl) (fun cdv cc A outer s H vs Q E hr ⟨a, hvs, ha, q⟩ => ?_) (fun _ => rfl)
  subst hvs
  exact ⟨a, _, _, rfl, ha, pe_str, pss_nil, ⟨_, rfl⟩, ha, q⟩
def spXL (C : Addr) (f : Str) : Sp := fun vs H Q _ => ∃ (a r : Addr) (xs : List V), vs = [.ref a, .ref r] ∧ H a = some (exo a C none) ∧ H r = some (.lst xs) ∧ ∀ q, H q = none → ∀ d, upd H q (.lst xs) d = none → d ≠ a → Q .non (upd (upd (upd H q (.lst xs)) d (exd d [(f, .ref q)])) a (exo a C (some d)))
theorem excL {P : Program} {w : World} {K : PySem.W.Frag} {mg : Str → Option Value} {base : Heap} {C fI : Addr} {name qual : Str} {params : Arguments} {body : List Stmt} {scope : Scope} {fd : FuncData} {p f msg : Str} {CX : CXT} {j : Nat} {pl : Env → Sem Bool} {p0 p1 p2 p3 p4 p5 p6 p7 p8 p9 p10 p11 p12 : Pos} {ar : Arg}
    (G : LVX.ExcF P K C fI name qual params body scope fd) (S : LVX.SupScope ["self", p] ["self", p] scope) (hp : (params.posonlyargs ++ params.args).head? = some ar) (hself : ar.arg = "self")
    (hbody : body = [.Expr (.Call (.Attribute (.Call (.Name "super" p0) [] [] p1) "__init__" p2) [.Constant (.str msg) j p3] [] p4) p5, .Assign [.Attribute (.Name "self" p6) f p7] (.Call (.Name "list" p10) [.Name p p8] [] p11) p9])
    (hno : PySem.W.findIn K (.ref C) f = some none) (hpd : (p == ("__debug__" : Str)) = false) (hpc : (p == ("__classdict__" : Str)) = false) (hgl : scope.names.lookup ("list" : Str) = some .globalImplicit) (hml : mg "list" = none)
    (hev : SupEv p0 p1 p2 p4 (.Constant (.str msg) j p3) pl) (hsw : SupSw p0 p1 p2 p4 p5 (.Constant (.str msg) j p3)) : FnOk P w K mg base CX 1 fI fd ["self", p] (spXL C f) := by
  refine LVX.exc_init (hev := hev) (hsw := hsw) (k := 0) G S hp (by rw [hself]; rfl) hbody (fun vs H Q E ⟨a, v, xs, h, _⟩ => by rw [h]; rfl) (fun cdv cc A outer s H vs Q E hr ⟨a, v, xs, hvs, ha, hv, q⟩ => ?_) (fun _ => rfl)
  subst hvs
  refine ⟨a, _, _, rfl, ha, pe_str, pss_one (ps_ost (pe_var (i := 0) rfl (.inl (S.par _ (by simp)))) (pe_callTy call_list_of (by rw [Gl]; exact hgl) hml (by with_unfolding_all rfl) (pa_cons (pe_var (i := 1) rfl (.inl (S.par _ (by simp))) hpd hpc) pa_nil rfl) (by decide) (by decide) rfl rfl)), ⟨_, rfl⟩, ha, ?_⟩
  exact ⟨.ref v, rfl, v, xs, rfl, .inl (.inl (.inl hv)), fun l hl => ⟨.ref a, rfl, a, C, rfl, G.T, hno, .inl ⟨by rw [upd_ne (ne_of_none ha hl)]; exact ha, fun dx n ne => q l hl dx n ne⟩⟩⟩
def gX1E (f c1 : Str) : GX := fun ds Q => ∃ s, ds = [.str s] ∧ s.length ≤ sizeLine ∧ okMsgE c1 s ∧ Q [f] [.str s]
def gX1J (f c1 : Str) : GX := fun ds Q => ∃ i, ds = [.int i] ∧ i.natAbs.log2 < 1920 ∧ okMsgE c1 (toString i) ∧ Q [f] [.int i]
def gXL (f : Str) : GX := fun ds Q => ∃ xs, ds = [.lst xs] ∧ Q [f] [.lst xs]
def gX0 : GX := fun ds Q => ds = [] ∧ Q [] []
structure XCls0 (P : Program) (w : World) (K : PySem.W.Frag) (mg : Str → Option Value) (base : Heap) (Cn : Str) : Prop where
  ex : ∃ (C fI : Addr) (fd : FuncData), mg Cn = some (.ref C) ∧ (OexC K C ∧ XfC K C) ∧ PySem.W.findIn K (.ref C) "__init__" = some (some (.ref fI)) ∧ PySem.W.typeIn K (.ref fI) = some (.type "function") ∧
    FnOk P w K mg base (L2.CX P w) 1 fI fd ["self"] (spX0 C) ∧ Binds K fd ["self"] []
structure XClsL (P : Program) (w : World) (K : PySem.W.Frag) (mg : Str → Option Value) (base : Heap) (Cn f : Str) : Prop where
  ex : ∃ (C fI : Addr) (fd : FuncData) (p : Str), mg Cn = some (.ref C) ∧ (OexC K C ∧ XfC K C ∧ PySem.W.findIn K (.ref C) f = some none) ∧ PySem.W.findIn K (.ref C) "__init__" = some (some (.ref fI)) ∧ PySem.W.typeIn K (.ref fI) = some (.type "function") ∧
    FnOk P w K mg base (L2.CX P w) 1 fI fd ["self", p] (spXL C f) ∧ Binds K fd ["self", p] []
section
variable {P : Program} {w : World} {K : PySem.W.Frag} {mg : Str → Option Value} {base : Heap} {Cn f c1 : Str}
theorem XClsL.xfa (T : XClsL P w K mg base Cn f) : XfA K mg Cn f :=
  let ⟨D, _, _, _, h1, ⟨_, h3, h4⟩, _⟩ := T.ex
  ⟨D, h1, h3, h4⟩
theorem XCls1E.xv (T : XCls1E P w K mg base Cn f c1) : XV P w K mg base Cn (gX1E f c1) where
  mo := fun h ⟨d, a, b, c, q⟩ => ⟨d, a, b, c, h _ _ q⟩
  ln := fun ds Q ⟨d, a, _⟩ => by rw [a]; show 1 ≤ 900; decide
  ex := by
    obtain ⟨C, fI, fd, p, hm, ⟨To, _⟩, iC, tI, F1, hb⟩ := T.ex
    refine ⟨C, fI, fd, _, _, hm, To, iC, tI, F1, hb, fun F H vs ds post Q s r ⟨d, e, h1, h2, q⟩ a ha hq => ?_⟩
    subst e
    cases r with
    | @cons v _ _ _ rv rl =>
      cases rl
      cases rv
      exact ⟨a, d, rfl, upd_same, h1, h2, exn_end (fv := [(f, .str d)]) s ha hm (.cons (.str _) .nil) q hq⟩
theorem XCls1J.xv (T : XCls1J P w K mg base Cn f c1) : XV P w K mg base Cn (gX1J f c1) where
  mo := fun h ⟨d, a, b, c, q⟩ => ⟨d, a, b, c, h _ _ q⟩
  ln := fun ds Q ⟨d, a, _⟩ => by rw [a]; show 1 ≤ 900; decide
  ex := by
    obtain ⟨C, fI, fd, p, hm, ⟨To, _⟩, iC, tI, F1, hb⟩ := T.ex
    refine ⟨C, fI, fd, _, _, hm, To, iC, tI, F1, hb, fun F H vs ds post Q s r ⟨d, e, h1, h2, q⟩ a ha hq => ?_⟩
    subst e
    cases r with
    | @cons v _ _ _ rv rl =>
      cases rl
      cases rv
      exact ⟨a, d, rfl, upd_same, h1, h2, exn_end (fv := [(f, .int d)]) s ha hm (.cons (.int _) .nil) q hq⟩
theorem XCls0.xv (T : XCls0 P w K mg base Cn) : XV P w K mg base Cn gX0 where
  mo := fun h ⟨a, q⟩ => ⟨a, h _ _ q⟩
  ln := fun ds Q ⟨a, _⟩ => by rw [a]; exact Nat.zero_le _
  ex := by
    obtain ⟨C, fI, fd, hm, ⟨To, _⟩, iC, tI, F1, hb⟩ := T.ex
    refine ⟨C, fI, fd, _, _, hm, To, iC, tI, F1, hb, fun F H vs ds post Q s r ⟨e, q⟩ a ha hq => ?_⟩
    subst e
    cases r
    exact ⟨a, rfl, upd_same, rfl, hq _ _ _ _ q (Evo.newF ha (s.free ha)) (same_newF s ha) (.ex0 hm upd_same)⟩
theorem XClsL.xv (T : XClsL P w K mg base Cn f) : XV P w K mg base Cn (gXL f) where
  mo := fun h ⟨a, b, q⟩ => ⟨a, b, h _ _ q⟩
  ln := fun ds Q ⟨_, a, _⟩ => by rw [a]; show 1 ≤ 900; decide
  ex := by
    obtain ⟨C, fI, fd, p, hm, ⟨To, _⟩, iC, tI, F1, hb⟩ := T.ex
    refine ⟨C, fI, fd, _, _, hm, To, iC, tI, F1, hb, fun F H vs ds post Q s r ⟨us, e, q⟩ a ha hq => ?_⟩
    subst e
    cases r with
    | cons rv rl =>
      cases rl
      cases rv with
      | @lst r xs _ h1 h2 =>
        have hr := s _ _ h1
        refine ⟨a, r, xs, rfl, upd_same, by rw [upd_ne (ne_of_none hr ha)]; exact hr, fun l hl d hd hda => ?_⟩
        have la : l ≠ a := fun z => by rw [z, upd_same] at hl; cases hl
        rw [upd_ne la] at hl
        have e1 := Evo.newF (o := .lst xs) hl (s.free hl)
        have s1 := same_newF (o := .lst xs) s hl
        have dl : d ≠ l := fun z => by rw [z, upd_same] at hd; cases hd
        rw [upd_ne dl, upd_ne hda] at hd
        have ha1 : upd H l (.lst xs) a = none := by rw [upd_ne (Ne.symm la)]; exact ha
        have hd1 : upd H l (.lst xs) d = none := by rw [upd_ne dl]; exact hd
        obtain ⟨e2, s2, rp⟩ := exn_new (Cn := Cn) (fv := [(f, .ref l)]) (us := [.lst us]) s1 ha1 hd1 hda hm (.cons (.lst upd_same (h2.same e1.fs)) .nil)
        have eH : upd (upd (upd (upd H a (exo a C none)) l (.lst xs)) d (exd d [(f, .ref l)])) a (exo a C (some d)) = upd (upd (upd H l (.lst xs)) d (exd d [(f, .ref l)])) a (exo a C (some d)) := by
          funext b
          by_cases h1 : b = a
          · rw [h1, upd_same, upd_same]
          · rw [upd_ne h1, upd_ne h1]
            by_cases h2 : b = d
            · rw [h2, upd_same, upd_same]
            · rw [upd_ne h2, upd_ne h2]
              by_cases h3 : b = l
              · rw [h3, upd_same, upd_same]
              · rw [upd_ne h3, upd_ne h3, upd_ne h1]
        rw [eH]
        exact ⟨rfl, hq _ _ _ _ q (e1.trans e2) s2 rp⟩
end
section
variable {X : Cx} {c : Ct} {W : WX} {p pos : Pos} {Cn : Str} {g : GX}
theorem se_mkX0 (T : XV X.prog X.w X.K X.mg X.base Cn g) (hr : Room 2 X.A) (hg : Gl X Cn) (hdb : (Cn == ("__debug__" : Str)) = false := by decide) : SE X c W (.Call (.Name Cn p) [] [] pos) (wMkX Cn g wNil) := by
  obtain ⟨C, fI, fd, ps, sp, hm, To, iC, tI, F1, hb, hsp⟩ := T.ex
  refine ⟨⟨fun pins s σ H Q I hh => ?_⟩, ⟨fun hQ hE h => ?_⟩⟩
  · obtain ⟨F, env, R, ds, e2, hf, z⟩ := hh
    cases hf
    refine wpAny_Call_Name_kw (args := []) (keywords := []) (ld_glob I hg hm ?_ hdb)
    refine PySem.W.callWith_K0 (first := []) I.kIn To.kC (run_oexV (us := []) (vs := []) To iC tI F1 hr hb passL I .nil (Nat.zero_le _) fun a hna => ?_)
    exact hsp F H [] [] _ _ R.sub .nil z a hna fun F3 H3 ks us hp ev3 s3 rp => hp (.ref a) F3 H3 (R.evo ev3 s3) ev3.nob rp
  · obtain ⟨ds, e2, a, z⟩ := h
    exact ⟨ds, e2, a, T.mo (fun _ _ z => hQ _ _ z) z⟩
end
section
open PySem.W
variable {P : Program} {w : World} {K : PySem.W.Frag} {mg : Str → Option Value} {base h : Heap}
theorem x_mk0 {Cn nm q qual file : Str} {st : Stmt} {C N fI cda cc : Addr} {bs bm : List Value} {sn sub ab col dd k0 k1 k2 k3 k5 : _} {oc kV doc pm ct ccl cl : Value} {od an cdd cld : Option Addr} {osl ccs csl : Array (Option Value)} {vs : Array Value} {tf : Tok} {msg : Str} {j : Nat} {pl : Env → Sem Bool} {p0 p1 p2 p3 p4 p5 : Pos} {ar : Arg}
    (X : K.In h) (G : h.Ns mainGlobals mg) (aC : nsIn K mainGlobals Cn = some (some (.ref C))) (xL : K.lookup C = some (excClassObj nm q C N bs bm true sn sub ab col dd k0 k1 k2 k3 k5 "ValueError.__new__"))
    (ini : findIn K (.ref C) "__init__" = some (some (.ref fI)))
    (lk : K.lookup fI = some ⟨oc, od, .func (ksFn "__init__" qual (defArgs st) (defBody st) (defScope st) .none kV doc pm an (.ref cda) ct cc), osl⟩) (lcd : K.lookup cda = some ⟨ccl, cdd, .fields vs, ccs⟩) (lcc : K.lookup cc = some ⟨cl, cld, .cell (some (.ref C)), csl⟩)
    (cd : codeIn K (.ref cda) qual = true) (sa : findIn K (.ref C) "__setattr__" = some (some (.builtin "object.__setattr__"))) (eC : subIn K (.ref C) (.type "BaseException") = some true) (tC : typeIn K (.ref C) = some (.type "type")) (kC : keepIn K (.ref C) = true)
    (ga : findIn K (.ref C) "__getattribute__" = some (some (.builtin "BaseException.__getattribute__"))) (gg : findIn K (.ref C) "__getattr__" = some none) (hd : hasDictIn K C = true) (tI : typeIn K (.ref fI) = some (.type "function"))
    (mro : mroIn K C (.ref C) = some true) (nosup : nsIn K mainGlobals "super" = some none) (sini : ks_superIn K C C "__init__" = some (some (.builtin "ValueError.__init__"))) (val : subIn K (.ref C) (.type "ValueError") = some true) (stat : nsIn K cStatics "thirdparty.any" = some none)
    (rf : PySem.HandSPX.refsVE bm = true) (v2 : vs[2]? = some (.str file tf)) (hfile : ((P.main.file : Str) == file) = true) (top : (P.main.scope.names.lookup ("super" : Str)).isSome = false)
    (S : LVX.SupScope ["self"] ["self"] (defScope st)) (hp : ((defArgs st).posonlyargs ++ (defArgs st).args).head? = some ar) (hself : ar.arg = "self")
    (hbody : defBody st = [.Expr (.Call (.Attribute (.Call (.Name "super" p0) [] [] p1) "__init__" p2) [.Constant (.str msg) j p3] [] p4) p5])
    (hev : SupEv p0 p1 p2 p4 (.Constant (.str msg) j p3) pl) (hsw : SupSw p0 p1 p2 p4 p5 (.Constant (.str msg) j p3))
    (b : ∀ us : List Value, us.length = (["self"] : List Str).length → bindArgs (ksFn "__init__" qual (defArgs st) (defBody st) (defScope st) .none kV doc pm an (.ref cda) ct cc) ⟨us, []⟩ = pure ((["self"] : List Str).zip us)) : XCls0 P w K mg base Cn :=
  have T : OexC K C := ⟨⟨nm, q, N, bs, bm, sn, sub, ab, col, dd, k0, k1, k2, k3, k5, xL, rf⟩, sa, eC, tC, kC⟩
  ⟨C, fI, _, PySem.W.mg_of X G aC, ⟨T, ⟨ga, gg, eC, hd⟩⟩, ini, tI,
    exc0 ⟨T, ⟨oc, od, kV, doc, pm, an, cda, cc, ct, osl, ccl, cdd, vs, ccs, file, tf, cl, cld, csl, rfl, lk, cd, lcd, v2, hfile, lcc⟩, mro, nosup, sini, val, stat, top⟩ S hp hself hbody hev hsw, .all b⟩
theorem x_mkL {Cn f nm q qual file : Str} {st : Stmt} {C N fI cda cc : Addr} {bs bm : List Value} {sn sub ab col dd k0 k1 k2 k3 k5 : _} {oc kV doc pm ct ccl cl : Value} {od an cdd cld : Option Addr} {osl ccs csl : Array (Option Value)} {vs : Array Value} {tf : Tok} {p msg : Str} {j : Nat} {pl : Env → Sem Bool} {p0 p1 p2 p3 p4 p5 p6 p7 p8 p9 p10 p11 : Pos} {ar : Arg}
    (X : K.In h) (G : h.Ns mainGlobals mg) (aC : nsIn K mainGlobals Cn = some (some (.ref C))) (xL : K.lookup C = some (excClassObj nm q C N bs bm true sn sub ab col dd k0 k1 k2 k3 k5 "ValueError.__new__"))
    (ini : findIn K (.ref C) "__init__" = some (some (.ref fI)))
    (lk : K.lookup fI = some ⟨oc, od, .func (ksFn "__init__" qual (defArgs st) (defBody st) (defScope st) .none kV doc pm an (.ref cda) ct cc), osl⟩) (lcd : K.lookup cda = some ⟨ccl, cdd, .fields vs, ccs⟩) (lcc : K.lookup cc = some ⟨cl, cld, .cell (some (.ref C)), csl⟩)
    (cd : codeIn K (.ref cda) qual = true) (sa : findIn K (.ref C) "__setattr__" = some (some (.builtin "object.__setattr__"))) (eC : subIn K (.ref C) (.type "BaseException") = some true) (tC : typeIn K (.ref C) = some (.type "type")) (kC : keepIn K (.ref C) = true)
    (ga : findIn K (.ref C) "__getattribute__" = some (some (.builtin "BaseException.__getattribute__"))) (gg : findIn K (.ref C) "__getattr__" = some none) (hd : hasDictIn K C = true) (nof : findIn K (.ref C) f = some none) (tI : typeIn K (.ref fI) = some (.type "function"))
    (mro : mroIn K C (.ref C) = some true) (nosup : nsIn K mainGlobals "super" = some none) (sini : ks_superIn K C C "__init__" = some (some (.builtin "ValueError.__init__"))) (val : subIn K (.ref C) (.type "ValueError") = some true) (stat : nsIn K cStatics "thirdparty.any" = some none)
    (rf : PySem.HandSPX.refsVE bm = true) (v2 : vs[2]? = some (.str file tf)) (hfile : ((P.main.file : Str) == file) = true) (top : (P.main.scope.names.lookup ("super" : Str)).isSome = false)
    (S : LVX.SupScope ["self", p] ["self", p] (defScope st)) (hp : ((defArgs st).posonlyargs ++ (defArgs st).args).head? = some ar) (hself : ar.arg = "self")
    (hbody : defBody st = [.Expr (.Call (.Attribute (.Call (.Name "super" p0) [] [] p1) "__init__" p2) [.Constant (.str msg) j p3] [] p4) p5, .Assign [.Attribute (.Name "self" p6) f p7] (.Call (.Name "list" p10) [.Name p p8] [] p11) p9])
    (hpd : (p == ("__debug__" : Str)) = false) (hpc : (p == ("__classdict__" : Str)) = false) (hgl : (defScope st).names.lookup ("list" : Str) = some .globalImplicit) (hml : mg "list" = none) (hev : SupEv p0 p1 p2 p4 (.Constant (.str msg) j p3) pl) (hsw : SupSw p0 p1 p2 p4 p5 (.Constant (.str msg) j p3))
    (b : ∀ us : List Value, us.length = (["self", p] : List Str).length → bindArgs (ksFn "__init__" qual (defArgs st) (defBody st) (defScope st) .none kV doc pm an (.ref cda) ct cc) ⟨us, []⟩ = pure ((["self", p] : List Str).zip us)) : XClsL P w K mg base Cn f :=
  have T : OexC K C := ⟨⟨nm, q, N, bs, bm, sn, sub, ab, col, dd, k0, k1, k2, k3, k5, xL, rf⟩, sa, eC, tC, kC⟩
  ⟨C, fI, _, p, PySem.W.mg_of X G aC, ⟨T, ⟨ga, gg, eC, hd⟩, nof⟩, ini, tI,
    excL (p12 := p0) ⟨T, ⟨oc, od, kV, doc, pm, an, cda, cc, ct, osl, ccl, cdd, vs, ccs, file, tf, cl, cld, csl, rfl, lk, cd, lcd, v2, hfile, lcc⟩, mro, nosup, sini, val, stat, top⟩ S hp hself hbody nof hpd hpc hgl hml hev hsw, .all b⟩
end
end LV
namespace LV
open PySem PySem.Spec PySem.W PyProof.Rows L2
structure EcF (K : Frag) (mg : Str → Option Value) (Es : List Str) : Prop where
  ex : ∀ C ∈ Es, ∃ D, mg C = some (.ref D) ∧ ExcC K D
structure XisG (K : Frag) (mg : Str → Option Value) (x : Str) (Cs : List (Str × Bool)) : Prop where
  ex : ∃ v cv, IsTo mg x v cv ∧ ∀ q ∈ Cs, ∃ D, mg q.1 = some (.ref D) ∧ kitOne K (.ref D) cv = some q.2
/-- of these classes the one named x; all of them -/
def xvN (Es : List Str) (x : Str) : List (Str × Bool) := Es.map fun C => (C, C == x)
def xvA (Es : List Str) : List (Str × Bool) := Es.map fun C => (C, true)
section
variable {X : Cx} {c : Ct} {W : WX} {e : Expr} {w : EW} {p p2 pos : Pos} {x : Str} {Cs : List (Str × Bool)} {Es : List Str}
theorem se_isVV (h : SE X c W e w) (E : EcF X.K X.mg Es) (G : XisG X.K X.mg x Cs) (hsub : Cs.all (fun q => Es.contains q.1) = true) (hg : Gl X "isinstance") (hm : X.mg "isinstance" = none) (hgx : Gl X x) (hdx : (x == ("__debug__" : Str)) = false := by decide)
    (hb : bootBuiltins "isinstance" = some (.builtin "isinstance") := by with_unfolding_all rfl)
    (hs1 : starEach [e, .Name x p2] X.env = (false, eval e X.env) :: starEach [.Name x p2] X.env := by rfl) (hs2 : starEach [.Name x p2] X.env = (false, eval (.Name x p2) X.env) :: starEach [] X.env := by rfl) (hpl : (backTo pos (starEach [.Name x p2] X.env)).any (·.1) = false := by rfl) :
    SE X c W (.Call (.Name "isinstance" p) [e, .Name x p2] [] pos) (wIsV Cs w) := by
  obtain ⟨v, cv, ht, hk⟩ := G.ex
  refine se_isV h ⟨v, cv, ht, ⟨fun q hq => ?_⟩⟩ hg hm hgx hdx hb hs1 hs2 hpl
  obtain ⟨D, h1, h2⟩ := hk q hq
  obtain ⟨D2, h3, h4⟩ := E.ex q.1 (by have := List.all_eq_true.mp hsub q hq; simpa using this)
  have : D2 = D := by have := h3.symm.trans h1; injection this with e; injection e
  subst this
  exact ⟨D2, h1, h4, h2⟩
end
section
variable {K : Frag} {h : Heap} {mg : Str → Option Value}
def ecB1 (K : Frag) (D : Addr) : Bool := decide (findIn K (.ref D) "__getattribute__" = some (some (.builtin "BaseException.__getattribute__"))) && (decide (findIn K (.ref D) "__getattr__" = some none) && (decide (subIn K (.ref D) (.type "BaseException") = some true) && (hasDictIn K D && (decide (findIn K (.ref D) "__class__" = some (some (.builtin "object.__class__"))) && (decide (specialIn K (.builtin "object.__class__") "__get__" = some (some (.builtin "getset_descriptor.__get__"))) && (decide (takesIn K (.builtin "object.__class__") = some true) && decide (mroIn K D (.type "object") = some true)))))))
theorem ecB1_ok {D : Addr} (h : ecB1 K D = true) : ExcC K D := by
  unfold ecB1 at h
  simp only [Bool.and_eq_true, decide_eq_true_eq] at h
  obtain ⟨a, b, c, d, e, f, g, i⟩ := h
  exact ⟨a, b, c, d, e, f, g, i⟩
def refOf (K : Frag) (C : Str) : Option Addr := match nsIn K mainGlobals C with | some (some (.ref D)) => some D | _ => none
theorem refOf_ok (X : K.In h) (G : h.Ns mainGlobals mg) {C : Str} {D : Addr} (e : refOf K C = some D) : mg C = some (.ref D) := by
  unfold refOf at e
  split at e
  · rename_i D' q
    cases e
    exact mg_of X G q
  · cases e
def ecB (K : Frag) (Es : List Str) : Bool := Es.all fun C => match refOf K C with | some D => ecB1 K D | none => false
theorem ec_mk (X : K.In h) (G : h.Ns mainGlobals mg) {Es : List Str} (e : ecB K Es = true) : EcF K mg Es := ⟨fun C hC => by
  have := List.all_eq_true.mp e C hC
  split at this
  · rename_i D q
    exact ⟨D, refOf_ok X G q, ecB1_ok this⟩
  · cases this⟩
def kitB2 (K : Frag) (cv : Value) (Cs : List (Str × Bool)) : Bool := Cs.all fun q => match refOf K q.1 with | some D => decide (kitOne K (.ref D) cv = some q.2) | none => false
theorem kitB2_ok (X : K.In h) (G : h.Ns mainGlobals mg) {cv : Value} {Cs : List (Str × Bool)} (e : kitB2 K cv Cs = true) : ∀ q ∈ Cs, ∃ D, mg q.1 = some (.ref D) ∧ kitOne K (.ref D) cv = some q.2 := fun q hq => by
  have := List.all_eq_true.mp e q hq
  split at this
  · rename_i D z
    exact ⟨D, refOf_ok X G z, of_decide_eq_true this⟩
  · cases this
def xgB (K : Frag) (x : Str) (Cs : List (Str × Bool)) : Bool := match refOf K x with | some cc => kitB2 K (.ref cc) Cs | none => false
theorem xg_own (X : K.In h) (G : h.Ns mainGlobals mg) {x : Str} {Cs : List (Str × Bool)} (e : xgB K x Cs = true) : XisG K mg x Cs := by
  unfold xgB at e
  split at e
  · rename_i cc q
    exact ⟨_, _, .own (refOf_ok X G q), kitB2_ok X G e⟩
  · cases e
theorem xg_bltn (X : K.In h) (G : h.Ns mainGlobals mg) {x : Str} {T : String} {Cs : List (Str × Bool)} (m : mg x = none) (bb : bootBuiltins x = some (.type T)) (n : x ≠ "__name__") (e : kitB2 K (.type T) Cs = true) : XisG K mg x Cs := ⟨_, _, .bltn m bb n, kitB2_ok X G e⟩
end
end LV
namespace LV
open PySem PySem.Spec PyProof.Rows L2
def rSumT (K : PySem.W.Frag) : List V → Hp → VK → Prop := fun vs H Q => ∃ (a : Addr) (ns : List Int), vs = [V.ref a] ∧ SqT K H a (ns.map V.int) ∧ Q (.int ns.sum) H
theorem cr_sumT {X : Cx} (hc : X.calm = true) : CallR X (.builtin "sum") (rSumT X.K) := by
  intro pins s σ H vs us Q I r h
  obtain ⟨a, ns, rfl, hs, q⟩ := h
  obtain ⟨its, rv, hl, _⟩ := I.tuple hs
  rw [Vals.ref1 r]
  have hi := rv.ints
  obtain ⟨xs, hx⟩ := hi.allInts.items
  have hn : numsOf its.toArray.toList = ns := by rw [show its.toArray.toList = its by simp]; exact hi.numsOf
  rw [hx] at hn hl
  rw [nums_intItems] at hn
  obtain ⟨o, ho, hcl, n, hd⟩ := hl
  refine PySem.W.ktm_sumG (I.ok.hd hc) ⟨o, ho, hcl, n, hd⟩ fun h' tk t' hk => ?_
  rw [preSum_eq, List.take_of_length_le (by simp), hn]
  exact ⟨.int _, H, I.kept hk, ⟨_, rfl⟩, q⟩
def gSumT : GL := fun ds Q => ∃ ns : List Int, ds = [.tup (ns.map D.int)] ∧ Q (.fz (.int ns.sum))
theorem vl_sumT {X : Cx} (hc : X.calm = true) : VRL X (.builtin "sum") gSumT :=
  .of (cr_sumT hc) ⟨fun h ⟨i, e, q⟩ => ⟨i, e, h _ q⟩⟩ fun F ds vs H Qv sm vl ⟨bs, e, q⟩ => by
    subst e
    obtain ⟨v, rfl, a, xs, rfl, h1, h2⟩ := vl.one
    rw [RepL.ints h2] at h1
    exact ⟨a, bs, rfl, Same.sqT sm h1, q.here sm (.int _)⟩
end LV
set_option maxHeartbeats 2000000
namespace LV
open PySem PySem.Spec L2
def xvE : List Str := ["InvalidName", "InvalidRow", "InvalidBox", "InvalidGroup", "InvalidScene", "InvalidTarget", "InvalidDeed", "InvalidStart", "InvalidWeights", "InvalidLine", "InvalidFilling", "InvalidFact", "NotPossible", "InvalidMachine", "InvalidSketch", "UnlikeFrames", "UnknownName", "DeedRefused", "InvalidText", "TooMany", "CallsPresent", "Contradiction", "NothingToUndo", "NothingToRedo"]
def w_is_integer : SW :=
  (wRet [] (wAnd (wIsi .int (wVar 0)) (wNot (wIsi .bl (wVar 0)))))
def w_entries_cover : SW :=
  (wSeq (wFor (.t [2, 3]) (wZip (wCons (wVar 0) (wCons (wVar 1) wNil)))
  (wIf (wB (wOp2 gLt (wVar 2) (wVar 3)))
  (wRet [] (wC (.bl false)))
  wSkip))
  (wRet [] (wC (.bl true))))
def w__law_bag : SW :=
  (wSeq (wSet 1 (wLc (.n 2) (wIt [] (wSl (wVar 0) wNoP (wPt (wC (.int 63))))) uYes (wBlt gInt1 (wCons (wVar 2) wNil)) [2]))
  (wSeq (wSet 3 (wC (.int 0)))
  (wSeq (wSet 4 (wC (.int 7)))
  (wSeq (wFor (.n 2) (wIt [] (wVar 1))
  (wSeq (wSet 4 (wOp2 gMod (wBlt gInt1 (wCons (wOp2 gAdd (wOp2 gAdd (wOp2 gMulT (wVar 4) (wC (.int 31))) (wOp2 gMod (wBlt gInt1 (wCons (wVar 2) wNil)) (wC (.int 1000003)))) (wC (.int 11))) wNil)) (wC (.int 2147483647))))
  (wIf (wtAnd (wB (wOp2 gEq (wVar 3) (wC (.int 0)))) (wB (wOp2 gGe (wBlt gAbs (wCons (wVar 2) wNil)) (wOp2 gPow (wC (.int 10)) (wC (.int 18))))))
  (wSet 3 (wBlt gAbs (wCons (wVar 2) wNil)))
  wSkip)))
  (wRet [] (wLst (wCons (wVar 3) (wCons (wVar 4) (wCons (wC (.int 0)) (wCons (wVar 1) wNil))))))))))
def w__law_take : SW :=
  (wSeq (wSetIx 0 (wOp2 gAdd (wOp2 gIx (wVar 0) (wC (.int 2))) (wC (.int 1))) (wC (.int 2)))
  (wSeq (wIf (wB (wOp2 gGt (wOp2 gIx (wVar 0) (wC (.int 0))) (wC (.int 0))))
  (wSeq (wSet 2 (wOp2 gMod (wBlt gInt1 (wCons (wOp2 gIx (wVar 0) (wC (.int 0))) wNil)) (wVar 1)))
  (wSeq (wSetIx 0 (wOp2 gDiv (wOp2 gIx (wVar 0) (wC (.int 0))) (wVar 1)) (wC (.int 0)))
  (wRet [0] (wVar 2))))
  wSkip)
  (wSeq (wSet 3 (wOp2 gIx (wVar 0) (wC (.int 3))))
  (wSeq (wIf (wtNot (wTru (wVar 3)))
  (wRet [0] (wOp2 gMod (wBlt gInt1 (wCons (wOp2 gIx (wVar 0) (wC (.int 2))) wNil)) (wVar 1)))
  wSkip)
  (wSeq (wSet 4 (wOp2 gIx (wVar 3) (wOp2 gMod (wBlt gInt1 (wCons (wOp2 gIx (wVar 0) (wC (.int 2))) wNil)) (wBlt gLen (wCons (wVar 3) wNil)))))
  (wSeq (wSet 5 (wOp2 gMod (wBlt gInt1 (wCons (wOp2 gAdd (wOp2 gAdd (wOp2 gMulT (wVar 4) (wC (.int 48271))) (wOp2 gMulT (wOp2 gIx (wVar 0) (wC (.int 2))) (wC (.int 69621)))) (wOp2 gIx (wVar 0) (wC (.int 1)))) wNil)) (wC (.int 2147483629))))
  (wSeq (wSet 6 (wOp2 gMod (wBlt gInt1 (wCons (wOp2 gAdd (wOp2 gMulT (wVar 5) (wVar 5)) (wOp2 gIx (wVar 0) (wC (.int 1)))) wNil)) (wC (.int 2147483647))))
  (wSeq (wSet 7 (wOp2 gMod (wBlt gInt1 (wCons (wOp2 gAdd (wOp2 gMulT (wVar 6) (wVar 6)) (wOp2 gIx (wVar 0) (wC (.int 2)))) wNil)) (wC (.int 2147483629))))
  (wRet [0] (wOp2 gMod (wBlt gInt1 (wCons (wOp2 gDiv (wVar 7) (wC (.int 64))) wNil)) (wVar 1)))))))))))
def w__law_is_integer : SW :=
  (wRet [] (wAnd (wIsi .int (wVar 0)) (wNot (wIsi .bl (wVar 0)))))
def w__law_odd : SW :=
  (wSeq (wIf (wB (wOp2 gEq (wVar 2) (wC (.int 0))))
  (wRet [] (wBlt gList (wCons (wVar 0) wNil)))
  wSkip)
  (wSeq (wIf (wB (wOp2 gLt (wVar 2) (wC (.int 6))))
  (wSeq (wSet 3 (wLst (wCons (wTup (wCons (wNeg (wC (.int 1))) wNil)) (wCons (wTup (wCons (wC (.bl true)) wNil)) (wCons (wTup (wCons (wC .non) wNil)) (wCons (wTup (wCons (wC (.str "1")) wNil)) (wCons (wTup (wCons (wTup (wCons (wC (.int 0)) wNil)) wNil)) wNil)))))))
  (wRet [] (wOp2 gAdd (wOp2 gAdd (wSl (wVar 0) wNoP (wPt (wVar 1))) (wOp2 gIx (wVar 3) (wOp2 gSub (wVar 2) (wC (.int 1))))) (wSl (wVar 0) (wPt (wOp2 gAdd (wVar 1) (wC (.int 1)))) wNoP))))
  wSkip)
  (wSeq (wIf (wB (wOp2 gEq (wVar 2) (wC (.int 6))))
  (wRet [] (wOp2 gAdd (wVar 0) (wTup (wCons (wC (.int 0)) wNil))))
  wSkip)
  (wSeq (wIf (wB (wOp2 gEq (wVar 2) (wC (.int 7))))
  (wRet [] (wSl (wVar 0) wNoP (wPt (wNeg (wC (.int 1))))))
  wSkip)
  (wSeq (wIf (wB (wOp2 gEq (wVar 2) (wC (.int 8))))
  (wRet [] (wTup wNil))
  wSkip)
  (wSeq (wIf (wB (wOp2 gEq (wVar 2) (wC (.int 9))))
  (wRet [] (wTup (wCons (wC (.int 0)) (wCons (wC (.int 0)) (wCons (wC (.int 0)) (wCons (wC (.int 0)) (wCons (wC (.int 0)) (wCons (wC (.int 0)) (wCons (wC (.int 0)) (wCons (wC (.int 0)) (wCons (wC (.int 0)) wNil)))))))))))
  wSkip)
  (wSeq (wIf (wB (wOp2 gEq (wVar 2) (wC (.int 10))))
  (wRet [] (wC .non))
  wSkip)
  (wSeq (wIf (wB (wOp2 gEq (wVar 2) (wC (.int 11))))
  (wRet [] (wC (.str "")))
  wSkip)
  (wRet [] (wC (.int 5)))))))))))
def w__law_dues : SW :=
  (wSeq (wSet 3 (wOp2 gMulT (wLst (wCons (wLst (wCons (wC (.str "refused")) (wCons (wBlt gRepr (wCons (wVar 1) wNil)) wNil))) wNil)) (wC (.int 6))))
  (wSeq (wIf (wTru (wVar 2))
  (wRet [] (wOp2 gAdd (wVar 3) (wOp2 gMulT (wLst (wCons (wLst (wCons (wC (.str "refused")) (wCons (wBlt gRepr (wCons (wVar 1) wNil)) wNil))) wNil)) (wC (.int 7)))))
  wSkip)
  (wSeq (wSet 3 (wOp2 gAdd (wVar 3) (wLst (wCons (wLst (wCons (wC (.str "refused")) (wCons (wBlt gRepr (wCons (wVar 0) wNil)) wNil))) (wCons (wLst (wCons (wC (.str "refused")) (wCons (wBlt gRepr (wCons (wC .non) wNil)) wNil))) (wCons (wLst (wCons (wC (.str "refused")) (wCons (wBlt gRepr (wCons (wVar 0) wNil)) wNil))) (wCons (wLst (wCons (wC (.str "refused")) (wCons (wBlt gRepr (wCons (wVar 0) wNil)) wNil))) wNil)))))))
  (wRet [] (wOp2 gAdd (wVar 3) (wOp2 gMulT (wLst (wCons (wLst (wCons (wC (.str "let")) (wCons (wC (.str "")) wNil))) wNil)) (wC (.int 3))))))))
def w__law_kinds : SW :=
  (wSeq (wIf (wtOr (wtNot (wTru (wIsV (xvA xvE) (wVar 0)))) (wtNot (wTru (wIsV (xvA xvE) (wVar 0)))))
  (wRet [] (wLst wNil))
  wSkip)
  (wSeq (wSet 1 (wLst (wCons (wIsV (xvN xvE "InvalidName") (wVar 0)) (wCons (wIsV (xvN xvE "InvalidRow") (wVar 0)) (wCons (wIsV (xvN xvE "InvalidBox") (wVar 0)) wNil)))))
  (wSeq (wSet 1 (wOp2 gAdd (wVar 1) (wLst (wCons (wIsV (xvN xvE "InvalidGroup") (wVar 0)) (wCons (wIsV (xvN xvE "InvalidScene") (wVar 0)) (wCons (wIsV (xvN xvE "InvalidTarget") (wVar 0)) wNil))))))
  (wSeq (wSet 1 (wOp2 gAdd (wVar 1) (wLst (wCons (wIsV (xvN xvE "InvalidDeed") (wVar 0)) (wCons (wIsV (xvN xvE "InvalidStart") (wVar 0)) (wCons (wIsV (xvN xvE "InvalidWeights") (wVar 0)) wNil))))))
  (wSeq (wSet 1 (wOp2 gAdd (wVar 1) (wLst (wCons (wIsV (xvN xvE "InvalidLine") (wVar 0)) (wCons (wIsV (xvN xvE "InvalidFilling") (wVar 0)) (wCons (wIsV (xvN xvE "InvalidFact") (wVar 0)) wNil))))))
  (wSeq (wSet 1 (wOp2 gAdd (wVar 1) (wLst (wCons (wIsV (xvN xvE "NotPossible") (wVar 0)) (wCons (wIsV (xvN xvE "InvalidMachine") (wVar 0)) (wCons (wIsV (xvN xvE "InvalidSketch") (wVar 0)) wNil))))))
  (wSeq (wSet 1 (wOp2 gAdd (wVar 1) (wLst (wCons (wIsV (xvN xvE "UnlikeFrames") (wVar 0)) (wCons (wIsV (xvN xvE "UnknownName") (wVar 0)) (wCons (wIsV (xvN xvE "DeedRefused") (wVar 0)) wNil))))))
  (wSeq (wSet 1 (wOp2 gAdd (wVar 1) (wLst (wCons (wIsV (xvN xvE "InvalidText") (wVar 0)) (wCons (wIsV (xvN xvE "TooMany") (wVar 0)) (wCons (wIsV (xvN xvE "CallsPresent") (wVar 0)) wNil))))))
  (wSeq (wSet 1 (wOp2 gAdd (wVar 1) (wLst (wCons (wIsV (xvN xvE "Contradiction") (wVar 0)) (wCons (wIsV (xvN xvE "NothingToUndo") (wVar 0)) (wCons (wIsV (xvN xvE "NothingToRedo") (wVar 0)) wNil))))))
  (wRet [] (wLc (.n 2) (wRng1 (wCons (wC (.int 24)) wNil)) (wTru (wOp2 gIx (wVar 1) (wVar 2))) (wVar 2) [2])))))))))))
def w_is_row (S_is_integer : FSpec) : SW :=
  (wSeq (wIf (wtNot (wTru (wIsi .tup (wVar 0))))
  (wRet [] (wC (.bl false)))
  wSkip)
  (wSeq (wIf (wtNot (wB (wChain gLe gLe (wC (.int 1)) (wBlt gLen (wCons (wVar 0) wNil)) (wC (.int 8)))))
  (wRet [] (wC (.bl false)))
  wSkip)
  (wSeq (wIf (wtAnd (wB (wOp2 gIsNotN (wVar 1) (wC .non))) (wB (wOp2 gNe (wBlt gLen (wCons (wVar 0) wNil)) (wVar 1))))
  (wRet [] (wC (.bl false)))
  wSkip)
  (wSeq (wFor (.n 2) (wIt [] (wVar 0))
  (wIf (wtOr (wtNot (wTru (wCall S_is_integer (wCons (wFrz (wVar 2)) wNil)))) (wB (wOp2 gLt (wVar 2) (wC (.int 0)))))
  (wRet [] (wC (.bl false)))
  wSkip))
  (wRet [] (wC (.bl true)))))))
def w__law_is_row (S__law_is_integer : FSpec) : SW :=
  (wSeq (wIf (wtOr (wtNot (wTru (wIsi .tup (wVar 0)))) (wB (wOp2 gNe (wBlt gLen (wCons (wVar 0) wNil)) (wVar 1))))
  (wRet [] (wC (.bl false)))
  wSkip)
  (wRet [] (wBlt gAll (wCons (wLc (.n 2) (wIt [] (wVar 0)) uYes (wAnd (wCall S__law_is_integer (wCons (wFrz (wVar 2)) wNil)) (wOp2 gGe (wVar 2) (wC (.int 0)))) [2]) wNil))))
def w__law_entry (S__law_take : FSpec) : SW :=
  (wSeq (wSet 1 (wCall S__law_take (wCons (wVar 0) (wCons (wC (.int 10)) wNil))))
  (wSeq (wIf (wB (wOp2 gLt (wVar 1) (wC (.int 8))))
  (wRet [0] (wOp2 gDiv (wVar 1) (wC (.int 2))))
  wSkip)
  (wSeq (wIf (wB (wOp2 gEq (wVar 1) (wC (.int 8))))
  (wRet [0] (wCall S__law_take (wCons (wVar 0) (wCons (wC (.int 40)) wNil))))
  wSkip)
  (wRet [0] (wOp2 gAdd (wOp2 gPow (wC (.int 10)) (wC (.int 29))) (wCall S__law_take (wCons (wVar 0) (wCons (wFrz (wOp2 gMulT (wC (.int 8)) (wOp2 gPow (wC (.int 10)) (wC (.int 29))))) wNil))))))))
def w__law_word (S__law_take : FSpec) : SW :=
  (wSeq (wSet 1 (wC (.str "abcdefghijklmnopqrstuvwxyz")))
  (wRet [0] (wJoin (wC (.str "")) (wLc (.n 2) (wRng1 (wCons (wOp2 gAdd (wC (.int 1)) (wCall S__law_take (wCons (wVar 0) (wCons (wC (.int 12)) wNil)))) wNil)) uYes (wOp2 gIx (wVar 1) (wCall S__law_take (wCons (wVar 0) (wCons (wC (.int 26)) wNil)))) [2]))))
def w_check_row (S_is_row : FSpec) : SW :=
  (wIf (wtNot (wTru (wCall S_is_row (wCons (wFrz (wVar 0)) (wCons (wFrz (wVar 1)) wNil)))))
  (wRaise1 "InvalidRow" "value" (wCons (wVar 0) wNil))
  wSkip)
def w__law_near (S__law_take S__law_entry : FSpec) : SW :=
  (wSeq (wSet 2 (wCall S__law_take (wCons (wVar 0) (wCons (wC (.int 3)) wNil))))
  (wSeq (wSet 3 (wCall S__law_take (wCons (wVar 0) (wCons (wFrz (wBlt gLen (wCons (wVar 1) wNil))) wNil))))
  (wSeq (wSet 4 (wLst wNil))
  (wSeq (wFor (.n 5) (wRng1 (wCons (wBlt gLen (wCons (wVar 1) wNil)) wNil))
  (wSeq (wSet 6 (wCall S__law_take (wCons (wVar 0) (wCons (wC (.int 3)) wNil))))
  (wIf (wtAnd (wB (wOp2 gEq (wVar 2) (wC (.int 1)))) (wB (wOp2 gEq (wVar 5) (wVar 3))))
  (wApp 4 (wOp2 gAdd (wOp2 gIx (wVar 1) (wVar 5)) (wC (.int 1))))
  (wIf (wB (wOp2 gEq (wVar 6) (wC (.int 0))))
  (wApp 4 (wOp2 gIx (wVar 1) (wVar 5)))
  (wIf (wB (wOp2 gEq (wVar 6) (wC (.int 1))))
  (wApp 4 (wBlt gMax2 (wCons (wOp2 gSub (wOp2 gIx (wVar 1) (wVar 5)) (wC (.int 1))) (wCons (wC (.int 0)) wNil))))
  (wIf (wB (wOp2 gEq (wVar 2) (wC (.int 2))))
  (wApp 4 (wCall S__law_entry (wCons (wVar 0) wNil)))
  (wApp 4 (wCall S__law_take (wCons (wVar 0) (wCons (wFrz (wOp2 gAdd (wOp2 gIx (wVar 1) (wVar 5)) (wC (.int 1)))) wNil))))))))))
  (wRet [0] (wBlt gTuple (wCons (wVar 4) wNil)))))))
def w__law_valued (S__law_kinds : FSpec) : SW :=
  (wSeq (wSet 1 (wLst (wCons (wMkX "InvalidName" (gX1 "value") (wCons (wFrz (wVar 0)) wNil)) (wCons (wMkX "InvalidRow" (gX1 "value") (wCons (wFrz (wVar 0)) wNil)) (wCons (wMkX "InvalidBox" (gX1 "value") (wCons (wFrz (wVar 0)) wNil)) (wCons (wMkX "InvalidGroup" (gX1 "value") (wCons (wFrz (wVar 0)) wNil)) (wCons (wMkX "InvalidScene" (gX1 "value") (wCons (wFrz (wVar 0)) wNil)) wNil)))))))
  (wSeq (wSet 1 (wOp2 gAdd (wVar 1) (wLst (wCons (wMkX "InvalidTarget" (gX1 "value") (wCons (wFrz (wVar 0)) wNil)) (wCons (wMkX "InvalidDeed" (gX1 "value") (wCons (wFrz (wVar 0)) wNil)) (wCons (wMkX "InvalidStart" (gX1 "value") (wCons (wFrz (wVar 0)) wNil)) (wCons (wMkX "InvalidWeights" (gX1 "value") (wCons (wFrz (wVar 0)) wNil)) wNil)))))))
  (wSeq (wSet 1 (wOp2 gAdd (wVar 1) (wLst (wCons (wMkX "InvalidLine" (gX1 "value") (wCons (wFrz (wVar 0)) wNil)) (wCons (wMkX "InvalidFilling" (gX1 "value") (wCons (wFrz (wVar 0)) wNil)) (wCons (wMkX "InvalidFact" (gX1 "value") (wCons (wFrz (wVar 0)) wNil)) (wCons (wMkX "NotPossible" (gX1 "value") (wCons (wFrz (wVar 0)) wNil)) wNil)))))))
  (wSeq (wIf (wB (wOp2 gNe (wLc (.n 2) (wIt [] (wVar 1)) uYes (wBlt gRepr (wCons (wXf "value" ["InvalidName", "InvalidRow", "InvalidBox", "InvalidGroup", "InvalidScene", "InvalidTarget", "InvalidDeed", "InvalidStart", "InvalidWeights", "InvalidLine", "InvalidFilling", "InvalidFact", "NotPossible"] (wVar 2)) wNil)) [2]) (wOp2 gMulT (wLst (wCons (wBlt gRepr (wCons (wVar 0) wNil)) wNil)) (wC (.int 13)))))
  (wRet [] (wC (.bl false)))
  wSkip)
  (wRet [] (wOp2 gEq (wLc (.n 2) (wIt [] (wVar 1)) uYes (wCall S__law_kinds (wCons (wFrz (wVar 2)) wNil)) [2]) (wLc (.n 3) (wRng1 (wCons (wC (.int 13)) wNil)) uYes (wLst (wCons (wVar 3) wNil)) [3])))))))
def w__law_others (S__law_kinds : FSpec) : SW :=
  (wSeq (wSet 2 (wLst (wCons (wMkX "InvalidMachine" (gX1F "part" "the " " of the machine are invalid") (wCons (wFrz (wVar 1)) wNil)) (wCons (wMkX "InvalidSketch" (gX1F "part" "the " " of the sketch are invalid") (wCons (wFrz (wVar 1)) wNil)) (wCons (wMkX "UnlikeFrames" (gX1E "part" "the machines have different ") (wCons (wFrz (wVar 1)) wNil)) wNil)))))
  (wSeq (wIf (wtOr (wB (wOp2 gNe (wLc (.n 3) (wIt [] (wVar 2)) uYes (wBlt gRepr (wCons (wXf "part" ["InvalidMachine", "InvalidSketch", "UnlikeFrames"] (wVar 3)) wNil)) [3]) (wOp2 gMulT (wLst (wCons (wBlt gRepr (wCons (wVar 1) wNil)) wNil)) (wC (.int 3))))) (wB (wOp2 gNe (wLc (.n 3) (wIt [] (wVar 2)) uYes (wCall S__law_kinds (wCons (wFrz (wVar 3)) wNil)) [3]) (wLst (wCons (wLst (wCons (wC (.int 13)) wNil)) (wCons (wLst (wCons (wC (.int 14)) wNil)) (wCons (wLst (wCons (wC (.int 15)) wNil)) wNil)))))))
  (wRet [] (wC (.bl false)))
  wSkip)
  (wSeq (wSet 4 (wLst (wCons (wMkX "UnknownName" (gX1 "name") (wCons (wFrz (wVar 1)) wNil)) (wCons (wMkX "DeedRefused" (gX2 "name" "step" "the deed " " is not enabled after " " deeds") (wCons (wFrz (wVar 1)) (wCons (wFrz (wVar 0)) wNil))) (wCons (wMkX "CallsPresent" (gX1F "name" "the deed " " is a call") (wCons (wFrz (wVar 1)) wNil)) wNil)))))
  (wSeq (wIf (wtOr (wB (wOp2 gNe (wLc (.n 3) (wIt [] (wVar 4)) uYes (wBlt gRepr (wCons (wXf "name" ["UnknownName", "DeedRefused", "CallsPresent"] (wVar 3)) wNil)) [3]) (wOp2 gMulT (wLst (wCons (wBlt gRepr (wCons (wVar 1) wNil)) wNil)) (wC (.int 3))))) (wB (wOp2 gNe (wLc (.n 3) (wIt [] (wVar 4)) uYes (wCall S__law_kinds (wCons (wFrz (wVar 3)) wNil)) [3]) (wLst (wCons (wLst (wCons (wC (.int 16)) wNil)) (wCons (wLst (wCons (wC (.int 17)) wNil)) (wCons (wLst (wCons (wC (.int 20)) wNil)) wNil)))))))
  (wRet [] (wC (.bl false)))
  wSkip)
  (wSeq (wSet 5 (wLst (wCons (wXf "step" ["DeedRefused"] (wOp2 gIx (wVar 4) (wC (.int 1)))) (wCons (wXf "line" ["InvalidText"] (wMkX "InvalidText" (gX1I "line" "line " " is invalid") (wCons (wFrz (wVar 0)) wNil))) (wCons (wXf "limit" ["TooMany"] (wMkX "TooMany" (gX1J "limit" "there are more than ") (wCons (wFrz (wVar 0)) wNil))) wNil)))))
  (wSeq (wIf (wB (wOp2 gNe (wBlt gRepr (wCons (wVar 5) wNil)) (wBlt gRepr (wCons (wLst (wCons (wVar 0) (wCons (wVar 0) (wCons (wVar 0) wNil)))) wNil))))
  (wRet [] (wC (.bl false)))
  wSkip)
  (wSeq (wIf (wtOr (wB (wOp2 gNe (wCall S__law_kinds (wCons (wFrz (wMkX "InvalidText" (gX1I "line" "line " " is invalid") (wCons (wFrz (wVar 0)) wNil))) wNil)) (wLst (wCons (wC (.int 18)) wNil)))) (wB (wOp2 gNe (wCall S__law_kinds (wCons (wFrz (wMkX "TooMany" (gX1J "limit" "there are more than ") (wCons (wFrz (wVar 0)) wNil))) wNil)) (wLst (wCons (wC (.int 19)) wNil)))))
  (wRet [] (wC (.bl false)))
  wSkip)
  (wSeq (wSet 6 (wXf "reasons" ["Contradiction"] (wMkX "Contradiction" (gXL "reasons") (wCons (wFrz (wLst (wCons (wC (.int 0)) (wCons (wVar 0) wNil)))) wNil))))
  (wSeq (wIf (wtOr (wB (wOp2 gNe (wBlt gRepr (wCons (wVar 6) wNil)) (wBlt gRepr (wCons (wLst (wCons (wC (.int 0)) (wCons (wVar 0) wNil))) wNil)))) (wB (wOp2 gNe (wCall S__law_kinds (wCons (wFrz (wMkX "Contradiction" (gXL "reasons") (wCons (wFrz (wLst (wCons (wVar 0) wNil))) wNil))) wNil)) (wLst (wCons (wC (.int 21)) wNil)))))
  (wRet [] (wC (.bl false)))
  wSkip)
  (wRet [] (wAnd (wOp2 gEq (wCall S__law_kinds (wCons (wFrz (wMkX "NothingToUndo" gX0 wNil)) wNil)) (wLst (wCons (wC (.int 22)) wNil))) (wOp2 gEq (wCall S__law_kinds (wCons (wFrz (wMkX "NothingToRedo" gX0 wNil)) wNil)) (wLst (wCons (wC (.int 23)) wNil))))))))))))))
def w_check_rows (S_check_row : FSpec) : SW :=
  (wSeq (wSet 1 (wC .non))
  (wFor (.n 2) (wIt [] (wVar 0))
  (wSeq (wExp (wCall S_check_row (wCons (wFrz (wVar 2)) (wCons (wFrz (wVar 1)) wNil))))
  (wSet 1 (wBlt gLen (wCons (wVar 2) wNil))))))
def w_covers (S_check_row S_entries_cover : FSpec) : SW :=
  (wSeq (wExp (wCall S_check_row (wCons (wFrz (wVar 0)) (wCons (wC .non) wNil))))
  (wSeq (wExp (wCall S_check_row (wCons (wFrz (wVar 1)) (wCons (wFrz (wBlt gLen (wCons (wVar 0) wNil))) wNil))))
  (wRet [] (wCall S_entries_cover (wCons (wFrz (wVar 0)) (wCons (wFrz (wVar 1)) wNil))))))
def w_size (S_check_row : FSpec) : SW :=
  (wSeq (wExp (wCall S_check_row (wCons (wFrz (wVar 0)) (wCons (wC .non) wNil))))
  (wRet [] (wBlt gSumT (wCons (wVar 0) wNil))))
def w__law_rows (S__law_entry S__law_near : FSpec) : SW :=
  (wSeq (wSet 2 (wBlt gTuple (wCons (wLc (.n 3) (wRng1 (wCons (wVar 1) wNil)) uYes (wCall S__law_entry (wCons (wVar 0) wNil)) [3]) wNil)))
  (wSeq (wSet 4 (wCall S__law_near (wCons (wVar 0) (wCons (wFrz (wVar 2)) wNil))))
  (wSeq (wSet 5 (wBlt gTuple (wCons (wLc (.n 3) (wRng1 (wCons (wVar 1) wNil)) uYes (wCall S__law_entry (wCons (wVar 0) wNil)) [3]) wNil)))
  (wRet [0] (wLst (wCons (wVar 2) (wCons (wVar 4) (wCons (wVar 5) (wCons (wCall S__law_near (wCons (wVar 0) (wCons (wFrz (wVar 5)) wNil))) wNil)))))))))
def w__law_caught (S_check_row : FSpec) : SW :=
  (wSeq (wTryAs (wExp (wCall S_check_row (wCons (wFrz (wVar 0)) (wCons (wC (.int 1)) wNil)))) (ctb [("InvalidRow", true)]) 1
  (wRet [] (wAnd (wIsX 1 [("InvalidRow", true)]) (wIsX 1 [("InvalidRow", true)]))))
  (wRet [] (wC (.bl false))))
def w_joined (S_check_rows : FSpec) : SW :=
  (wSeq (wSet 2 (wLst (wCons (wVar 0) (wStar (wVar 1) wNil))))
  (wSeq (wExp (wCall S_check_rows (wCons (wFrz (wVar 2)) wNil)))
  (wRet [] (wBlt gTuple (wCons (wLc (.n 3) (wRng1 (wCons (wBlt gLen (wCons (wVar 0) wNil)) wNil)) uYes (wBlt gMaxL (wCons (wLc (.n 4) (wIt [] (wVar 2)) uYes (wOp2 gIx (wVar 4) (wVar 3)) [4]) wNil)) [3]) wNil)))))
def w_shared (S_check_rows : FSpec) : SW :=
  (wSeq (wSet 2 (wLst (wCons (wVar 0) (wStar (wVar 1) wNil))))
  (wSeq (wExp (wCall S_check_rows (wCons (wFrz (wVar 2)) wNil)))
  (wRet [] (wBlt gTuple (wCons (wLc (.n 3) (wRng1 (wCons (wBlt gLen (wCons (wVar 0) wNil)) wNil)) uYes (wBlt gMinL (wCons (wLc (.n 4) (wIt [] (wVar 2)) uYes (wOp2 gIx (wVar 4) (wVar 3)) [4]) wNil)) [3]) wNil)))))
def w__law_orders (S_covers : FSpec) : SW :=
  (wSeq (wFor (.n 1) (wIt [] (wVar 0))
  (wFor (.n 2) (wIt [] (wVar 0))
  (wSeq (wSet 3 (wBlt gAll (wCons (wLc (.n 4) (wRng1 (wCons (wBlt gLen (wCons (wVar 1) wNil)) wNil)) uYes (wOp2 gGe (wOp2 gIx (wVar 1) (wVar 4)) (wOp2 gIx (wVar 2) (wVar 4))) [4]) wNil)))
  (wSeq (wIf (wtAnd (wTru (wVar 3)) (wB (wOp2 gIsNotB (wCall S_covers (wCons (wFrz (wVar 1)) (wCons (wFrz (wVar 2)) wNil))) (wC (.bl true)))))
  (wRet [] (wC (.bl false)))
  wSkip)
  (wIf (wtAnd (wtNot (wTru (wVar 3))) (wB (wOp2 gIsNotB (wCall S_covers (wCons (wFrz (wVar 1)) (wCons (wFrz (wVar 2)) wNil))) (wC (.bl false)))))
  (wRet [] (wC (.bl false)))
  wSkip)))))
  (wRet [] (wC (.bl true))))
def w__law_told (S_shared S_joined : FSpec) : SW :=
  (wSeq (wIf (wtAnd (wTru (wVar 2)) (wB (wOp2 gEq (wVar 1) (wC (.int 1)))))
  (wRet [] (wCallV 1 S_shared (wCons (wFrz (wOp2 gIx (wVar 0) (wC (.int 0)))) wNil)))
  wSkip)
  (wSeq (wIf (wtAnd (wTru (wVar 2)) (wB (wOp2 gEq (wVar 1) (wC (.int 2)))))
  (wRet [] (wCallV 1 S_shared (wCons (wFrz (wOp2 gIx (wVar 0) (wC (.int 0)))) (wCons (wFrz (wOp2 gIx (wVar 0) (wC (.int 1)))) wNil))))
  wSkip)
  (wSeq (wIf (wtAnd (wTru (wVar 2)) (wB (wOp2 gEq (wVar 1) (wC (.int 3)))))
  (wRet [] (wCallV 1 S_shared (wCons (wFrz (wOp2 gIx (wVar 0) (wC (.int 0)))) (wCons (wFrz (wOp2 gIx (wVar 0) (wC (.int 1)))) (wCons (wFrz (wOp2 gIx (wVar 0) (wC (.int 2)))) wNil)))))
  wSkip)
  (wSeq (wIf (wTru (wVar 2))
  (wRet [] (wCallV 1 S_shared (wCons (wFrz (wOp2 gIx (wVar 0) (wC (.int 0)))) (wCons (wFrz (wOp2 gIx (wVar 0) (wC (.int 1)))) (wCons (wFrz (wOp2 gIx (wVar 0) (wC (.int 2)))) (wCons (wFrz (wOp2 gIx (wVar 0) (wC (.int 3)))) wNil))))))
  wSkip)
  (wSeq (wIf (wB (wOp2 gEq (wVar 1) (wC (.int 1))))
  (wRet [] (wCallV 1 S_joined (wCons (wFrz (wOp2 gIx (wVar 0) (wC (.int 0)))) wNil)))
  wSkip)
  (wSeq (wIf (wB (wOp2 gEq (wVar 1) (wC (.int 2))))
  (wRet [] (wCallV 1 S_joined (wCons (wFrz (wOp2 gIx (wVar 0) (wC (.int 0)))) (wCons (wFrz (wOp2 gIx (wVar 0) (wC (.int 1)))) wNil))))
  wSkip)
  (wSeq (wIf (wB (wOp2 gEq (wVar 1) (wC (.int 3))))
  (wRet [] (wCallV 1 S_joined (wCons (wFrz (wOp2 gIx (wVar 0) (wC (.int 0)))) (wCons (wFrz (wOp2 gIx (wVar 0) (wC (.int 1)))) (wCons (wFrz (wOp2 gIx (wVar 0) (wC (.int 2)))) wNil)))))
  wSkip)
  (wRet [] (wCallV 1 S_joined (wCons (wFrz (wOp2 gIx (wVar 0) (wC (.int 0)))) (wCons (wFrz (wOp2 gIx (wVar 0) (wC (.int 1)))) (wCons (wFrz (wOp2 gIx (wVar 0) (wC (.int 2)))) (wCons (wFrz (wOp2 gIx (wVar 0) (wC (.int 3)))) wNil)))))))))))))
def w__law_longer (S_joined S__law_is_row S_shared : FSpec) : SW :=
  (wSeq (wSet 1 (wBlt gTuple (wCons (wLc (.n 2) (wIt [] (wOp2 gIx (wVar 0) (wC (.int 2)))) uYes (wOp2 gAdd (wVar 2) (wC (.int 1))) [2]) wNil)))
  (wSeq (wSet 3 (wBlt gTuple (wCons (wLc (.n 2) (wIt [] (wOp2 gIx (wVar 0) (wC (.int 0)))) uYes (wBlt gMax2 (wCons (wOp2 gSub (wVar 2) (wC (.int 1))) (wCons (wC (.int 0)) wNil))) [2]) wNil)))
  (wSeq (wSet 4 (wLc (.n 5) (wRng1 (wCons (wBlt gLen (wCons (wVar 1) wNil)) wNil)) uYes (wLc (.n 6) (wIt [] (wOp2 gAdd (wVar 0) (wLst (wCons (wVar 1) wNil)))) uYes (wOp2 gIx (wVar 6) (wVar 5)) [6]) [5]))
  (wSeq (wSet 7 (wCallV 1 S_joined (wCons (wFrz (wOp2 gIx (wVar 0) (wC (.int 0)))) (wCons (wFrz (wOp2 gIx (wVar 0) (wC (.int 1)))) (wCons (wFrz (wOp2 gIx (wVar 0) (wC (.int 2)))) (wCons (wFrz (wOp2 gIx (wVar 0) (wC (.int 3)))) (wCons (wFrz (wOp2 gIx (wVar 0) (wC (.int 0)))) (wCons (wFrz (wVar 1)) wNil))))))))
  (wSeq (wIf (wtOr (wtNot (wTru (wCall S__law_is_row (wCons (wFrz (wVar 7)) (wCons (wFrz (wBlt gLen (wCons (wVar 1) wNil))) wNil))))) (wB (wOp2 gNe (wVar 7) (wBlt gTuple (wCons (wLc (.n 8) (wIt [] (wVar 4)) uYes (wBlt gMaxL (wCons (wVar 8) wNil)) [8]) wNil)))))
  (wRet [] (wC (.bl false)))
  wSkip)
  (wSeq (wSet 4 (wLc (.n 5) (wRng1 (wCons (wBlt gLen (wCons (wVar 3) wNil)) wNil)) uYes (wLc (.n 6) (wIt [] (wOp2 gAdd (wVar 0) (wLst (wCons (wVar 3) wNil)))) uYes (wOp2 gIx (wVar 6) (wVar 5)) [6]) [5]))
  (wSeq (wSet 7 (wCallV 1 S_shared (wCons (wFrz (wOp2 gIx (wVar 0) (wC (.int 0)))) (wCons (wFrz (wOp2 gIx (wVar 0) (wC (.int 1)))) (wCons (wFrz (wOp2 gIx (wVar 0) (wC (.int 2)))) (wCons (wFrz (wOp2 gIx (wVar 0) (wC (.int 3)))) (wCons (wFrz (wOp2 gIx (wVar 0) (wC (.int 2)))) (wCons (wFrz (wVar 3)) wNil))))))))
  (wSeq (wIf (wtOr (wtNot (wTru (wCall S__law_is_row (wCons (wFrz (wVar 7)) (wCons (wFrz (wBlt gLen (wCons (wVar 3) wNil))) wNil))))) (wB (wOp2 gNe (wVar 7) (wBlt gTuple (wCons (wLc (.n 8) (wIt [] (wVar 4)) uYes (wBlt gMinL (wCons (wVar 8) wNil)) [8]) wNil)))))
  (wRet [] (wC (.bl false)))
  wSkip)
  (wSeq (wTryAs (wExp (wCallV 1 S_joined (wCons (wFrz (wOp2 gIx (wVar 0) (wC (.int 0)))) (wCons (wFrz (wOp2 gIx (wVar 0) (wC (.int 1)))) (wCons (wFrz (wOp2 gIx (wVar 0) (wC (.int 2)))) (wCons (wFrz (wOp2 gIx (wVar 0) (wC (.int 3)))) (wCons (wFrz (wOp2 gIx (wVar 0) (wC (.int 0)))) (wCons (wC .non) wNil)))))))) (ctb [("InvalidRow", true)]) 9
  (wRet [] (wOp2 gIsN (wExA 9 "InvalidRow" "value") (wC .non))))
  (wRet [] (wC (.bl false))))))))))))
def w__law_called (S_check_row S_covers S_joined S_shared S_size : FSpec) : SW :=
  (wSeq (wSet 3 (wOp2 gIx (wVar 1) (wC (.int 0))))
  (wSeq (wTryAs (wIf (wB (wOp2 gEq (wVar 0) (wC (.int 0))))
  (wExp (wCall S_check_row (wCons (wFrz (wVar 2)) (wCons (wFrz (wBlt gLen (wCons (wVar 3) wNil))) wNil))))
  (wIf (wB (wOp2 gEq (wVar 0) (wC (.int 1))))
  (wExp (wCall S_covers (wCons (wFrz (wVar 3)) (wCons (wFrz (wVar 2)) wNil))))
  (wIf (wB (wOp2 gEq (wVar 0) (wC (.int 2))))
  (wExp (wCallV 1 S_joined (wCons (wFrz (wVar 3)) (wCons (wFrz (wVar 2)) wNil))))
  (wIf (wB (wOp2 gEq (wVar 0) (wC (.int 3))))
  (wExp (wCallV 1 S_shared (wCons (wFrz (wVar 3)) (wCons (wFrz (wVar 2)) wNil))))
  (wIf (wB (wOp2 gEq (wVar 0) (wC (.int 4))))
  (wExp (wCallV 1 S_joined (wCons (wFrz (wVar 3)) (wCons (wFrz (wOp2 gIx (wVar 1) (wC (.int 1)))) (wCons (wFrz (wVar 2)) (wCons (wFrz (wOp2 gIx (wVar 1) (wC (.int 2)))) wNil))))))
  (wIf (wB (wOp2 gEq (wVar 0) (wC (.int 5))))
  (wExp (wCallV 1 S_shared (wCons (wFrz (wVar 3)) (wCons (wFrz (wOp2 gIx (wVar 1) (wC (.int 3)))) (wCons (wFrz (wVar 2)) (wCons (wC .non) wNil))))))
  (wIf (wB (wOp2 gEq (wVar 0) (wC (.int 6))))
  (wExp (wCall S_covers (wCons (wFrz (wVar 2)) (wCons (wFrz (wVar 3)) wNil))))
  (wIf (wB (wOp2 gEq (wVar 0) (wC (.int 7))))
  (wExp (wCall S_covers (wCons (wFrz (wVar 2)) (wCons (wC .non) wNil))))
  (wIf (wB (wOp2 gEq (wVar 0) (wC (.int 8))))
  (wExp (wCallV 1 S_joined (wCons (wFrz (wVar 2)) (wCons (wFrz (wVar 3)) wNil))))
  (wIf (wB (wOp2 gEq (wVar 0) (wC (.int 9))))
  (wExp (wCallV 1 S_shared (wCons (wFrz (wVar 2)) (wCons (wFrz (wVar 3)) (wCons (wFrz (wOp2 gIx (wVar 1) (wC (.int 1)))) wNil)))))
  (wIf (wB (wOp2 gEq (wVar 0) (wC (.int 10))))
  (wExp (wCallV 1 S_joined (wCons (wFrz (wVar 2)) wNil)))
  (wIf (wB (wOp2 gEq (wVar 0) (wC (.int 11))))
  (wExp (wCallV 1 S_shared (wCons (wFrz (wVar 2)) wNil)))
  (wExp (wCall S_size (wCons (wFrz (wVar 2)) wNil))))))))))))))) (ctb [("InvalidRow", true)]) 4
  (wRet [] (wLst (wCons (wC (.str "refused")) (wCons (wBlt gRepr (wCons (wExA 4 "InvalidRow" "value") wNil)) wNil)))))
  (wRet [] (wLst (wCons (wC (.str "let")) (wCons (wC (.str "")) wNil))))))
def w__law_joins (S__law_told S__law_is_row S_check_row S_size S__law_is_integer : FSpec) : SW :=
  (wSeq (wSet 1 (wBlt gLen (wCons (wOp2 gIx (wVar 0) (wC (.int 0))) wNil)))
  (wSeq (wFor (.n 2) (wRng2 (wCons (wC (.int 1)) (wCons (wC (.int 5)) wNil)))
  (wSeq (wSet 3 (wLc (.n 5) (wRng1 (wCons (wVar 1) wNil)) uYes (wLc (.n 6) (wIt [] (wSl (wVar 0) wNoP (wPt (wVar 2)))) uYes (wOp2 gIx (wVar 6) (wVar 5)) [6]) [5]))
  (wSeq (wSet 4 (wCall S__law_told (wCons (wFrz (wVar 0)) (wCons (wFrz (wVar 2)) (wCons (wC (.bl false)) wNil)))))
  (wSeq (wIf (wtOr (wtNot (wTru (wCall S__law_is_row (wCons (wFrz (wVar 4)) (wCons (wFrz (wVar 1)) wNil))))) (wB (wOp2 gNe (wVar 4) (wBlt gTuple (wCons (wLc (.n 7) (wIt [] (wVar 3)) uYes (wBlt gMaxL (wCons (wVar 7) wNil)) [7]) wNil)))))
  (wRet [] (wC (.bl false)))
  wSkip)
  (wSeq (wSet 4 (wCall S__law_told (wCons (wFrz (wVar 0)) (wCons (wFrz (wVar 2)) (wCons (wC (.bl true)) wNil)))))
  (wIf (wtOr (wtNot (wTru (wCall S__law_is_row (wCons (wFrz (wVar 4)) (wCons (wFrz (wVar 1)) wNil))))) (wB (wOp2 gNe (wVar 4) (wBlt gTuple (wCons (wLc (.n 7) (wIt [] (wVar 3)) uYes (wBlt gMinL (wCons (wVar 7) wNil)) [7]) wNil)))))
  (wRet [] (wC (.bl false)))
  wSkip))))))
  (wSeq (wFor (.n 6) (wIt [] (wVar 0))
  (wIf (wtOr (wtNot (wTru (wCall S__law_is_integer (wCons (wFrz (wCall S_size (wCons (wFrz (wVar 6)) wNil))) wNil)))) (wtOr (wB (wOp2 gNe (wCall S_size (wCons (wFrz (wVar 6)) wNil)) (wBlt gSumT (wCons (wVar 6) wNil)))) (wB (wOp2 gIsNotN (wCall S_check_row (wCons (wFrz (wVar 6)) (wCons (wFrz (wVar 1)) wNil))) (wC .non)))))
  (wRet [] (wC (.bl false)))
  wSkip))
  (wRet [] (wC (.bl true))))))
def w__law_refusals (S__law_take S__law_odd S__law_dues S__law_called : FSpec) : SW :=
  (wSeq (wSet 2 (wOp2 gIx (wVar 1) (wC (.int 0))))
  (wSeq (wSet 3 (wCall S__law_take (wCons (wVar 0) (wCons (wFrz (wBlt gLen (wCons (wVar 2) wNil))) wNil))))
  (wSeq (wFor (.n 4) (wRng1 (wCons (wC (.int 13)) wNil))
  (wSeq (wSet 5 (wCall S__law_odd (wCons (wFrz (wVar 2)) (wCons (wFrz (wVar 3)) (wCons (wFrz (wVar 4)) wNil)))))
  (wSeq (wSet 6 (wOr (wOp2 gNotIn (wVar 4) (wTup (wCons (wC (.int 6)) (wCons (wC (.int 7)) wNil)))) (wOr (wAnd (wOp2 gEq (wVar 4) (wC (.int 6))) (wOp2 gEq (wBlt gLen (wCons (wVar 2) wNil)) (wC (.int 8)))) (wAnd (wOp2 gEq (wVar 4) (wC (.int 7))) (wOp2 gEq (wBlt gLen (wCons (wVar 2) wNil)) (wC (.int 1)))))))
  (wSeq (wSet 7 (wCall S__law_dues (wCons (wFrz (wVar 2)) (wCons (wFrz (wVar 5)) (wCons (wFrz (wVar 6)) wNil)))))
  (wFor (.n 8) (wRng1 (wCons (wC (.int 13)) wNil))
  (wIf (wB (wOp2 gNe (wCall S__law_called (wCons (wFrz (wVar 8)) (wCons (wFrz (wVar 1)) (wCons (wFrz (wVar 5)) wNil)))) (wOp2 gIx (wVar 7) (wVar 8))))
  (wRet [0] (wC (.bl false)))
  wSkip))))))
  (wRet [0] (wC (.bl true))))))
def w_law (S__law_bag S__law_take S__law_rows S__law_refusals S__law_longer S__law_joins S__law_orders S__law_entry S__law_caught S__law_word S__law_others S__law_valued : FSpec) : SW :=
  (wSeq (wSet 1 (wCall S__law_bag (wCons (wFrz (wVar 0)) wNil)))
  (wSeq (wSet 2 (wOp2 gAdd (wC (.int 1)) (wCall S__law_take (wCons (wVar 1) (wCons (wC (.int 8)) wNil)))))
  (wSeq (wSet 3 (wCall S__law_rows (wCons (wVar 1) (wCons (wFrz (wVar 2)) wNil))))
  (wSeq (wIf (wtOr (wtNot (wTru (wCall S__law_orders (wCons (wFrz (wVar 3)) wNil)))) (wtOr (wtNot (wTru (wCall S__law_joins (wCons (wFrz (wVar 3)) wNil)))) (wtOr (wtNot (wTru (wCall S__law_longer (wCons (wFrz (wVar 3)) wNil)))) (wtNot (wTru (wCall S__law_refusals (wCons (wVar 1) (wCons (wFrz (wVar 3)) wNil))))))))
  (wRet [] (wC (.bl false)))
  wSkip)
  (wSeq (wSet 4 (wCall S__law_entry (wCons (wVar 1) wNil)))
  (wSeq (wIf (wtOr (wtNot (wTru (wCall S__law_caught (wCons (wFrz (wLst (wCons (wVar 4) wNil))) wNil)))) (wtOr (wtNot (wTru (wCall S__law_caught (wCons (wFrz (wTup (wCons (wOp2 gSub (wNeg (wC (.int 1))) (wVar 4)) wNil))) wNil)))) (wTru (wCall S__law_caught (wCons (wFrz (wTup (wCons (wVar 4) wNil))) wNil)))))
  (wRet [] (wC (.bl false)))
  wSkip)
  (wRet [] (wAnd (wCall S__law_valued (wCons (wFrz (wVar 4)) wNil)) (wAnd (wCall S__law_valued (wCons (wFrz (wTup (wCons (wVar 4) (wCons (wC .non) wNil)))) wNil)) (wCall S__law_others (wCons (wFrz (wVar 4)) (wCons (wFrz (wCall S__law_word (wCons (wVar 1) wNil))) wNil))))))))))))
end LV
set_option maxHeartbeats 400000
namespace LV
open PySem PySem.Spec L2
def cov (xs ys : List Int) : Bool := (xs.zip ys).all fun p => decide (p.2 ≤ p.1)
theorem cov_cons {x y : Int} {xs ys : List Int} : cov (x :: xs) (y :: ys) = (decide (y ≤ x) && cov xs ys) := rfl
end LV
namespace LV
end LV
namespace LV
open PySem PySem.Spec L2
theorem plainL_ints : ∀ r : List Int, plainL (r.map D.int) = true
  | [] => rfl
  | x :: r => by show (true && plainL (r.map D.int)) = true; rw [plainL_ints r]; rfl
theorem plainL_rows : ∀ rows : List (List Int), plainL (rows.map rowD) = true
  | [] => rfl
  | r :: rows => by show (plainL (r.map D.int) && plainL (rows.map rowD)) = true; rw [plainL_ints, plainL_rows rows]; rfl
theorem lay_ints : ∀ r : List Int, PyData.canLayAll0 (pdL (r.map D.int)) = true
  | [] => rfl
  | x :: r => by show (true && PyData.canLayAll0 (pdL (r.map D.int))) = true; rw [lay_ints r]; rfl
theorem deep_ints : ∀ r : List Int, PyData.depthAll (pdL (r.map D.int)) = 0
  | [] => rfl
  | x :: r => by show max 0 (PyData.depthAll (pdL (r.map D.int))) = 0; rw [deep_ints r]; rfl
theorem okE_row (r : List Int) : (rowD r).okE = true := by
  show (plainL (r.map D.int) && (PyData.canLayAll0 (pdL (r.map D.int)) && decide (PyData.depthAll (pdL (r.map D.int)) + 1 ≤ 64))) = true
  rw [plainL_ints, lay_ints, deep_ints]; rfl
theorem eqv_ints : ∀ a b : List Int, PyData.eqvAll (pdL (a.map D.int)) (pdL (b.map D.int)) = decide (a = b)
  | [], [] => by simp [pdL, PyData.eqvAll]
  | [], _ :: _ => by simp [pdL, PyData.eqvAll]
  | _ :: _, [] => by simp [pdL, PyData.eqvAll]
  | x :: a, y :: b => by
    show ((x == y) && PyData.eqvAll (pdL (a.map D.int)) (pdL (b.map D.int))) = decide (x :: a = y :: b)
    rw [eqv_ints a b]
    by_cases h : x = y
    · by_cases h' : a = b
      · simp [h, h']
      · simp [h, h']
    · simp [h]
theorem eqv_row (a b : List Int) : eqvD (rowD a) (rowD b) = decide (a = b) := eqv_ints a b
end LV
set_option exponentiation.threshold 2000
namespace LV
open PySem PySem.Spec L2
mutual
/-- plain, ints of at most forty digits, texts of at most a hundred letters -/
def D.tidy : D → Bool
  | .non => true
  | .bl _ => true
  | .int i => decide (i.natAbs < 10 ^ 40)
  | .str x => x.cps.toList.all (fun c => decide (c < 16 ^ 8)) && decide (x.cps.size ≤ 100)
  | .tup ds => tidyL ds
  | .lst ds => tidyL ds
  | _ => false
def tidyL : List D → Bool
  | [] => true
  | d :: ds => d.tidy && tidyL ds
end
mutual
def D.nodes : D → Nat
  | .tup ds => nodesL ds + 1
  | .lst ds => nodesL ds + 1
  | _ => 1
def nodesL : List D → Nat
  | [] => 0
  | d :: ds => d.nodes + nodesL ds
end
theorem log2_40 {n : Nat} (h : n < 10 ^ 40) : n.log2 < 140 := PySem.Flt.log2_lt_of (by decide) (Nat.lt_of_lt_of_le h (by decide))
mutual
theorem tidy_plain : ∀ d : D, d.tidy = true → d.plain = true
  | .non, _ => rfl
  | .bl _, _ => rfl
  | .int _, _ => rfl
  | .str _, _ => rfl
  | .tup ds, h => tidyL_plain ds h
  | .lst ds, h => tidyL_plain ds h
  | .scr _, h => nomatch h
  | .dct _ _, h => nomatch h
  | .ins _ _ _, h => nomatch h
  | .cls _, h => nomatch h
  | .tpn _, h => nomatch h
  | .exn _ _ _, h => nomatch h
theorem tidyL_plain : ∀ ds : List D, tidyL ds = true → plainL ds = true
  | [], _ => rfl
  | d :: ds, h => by
    have h' := Bool.and_eq_true_iff.mp h
    show (d.plain && plainL ds) = true
    rw [tidy_plain d h'.1, tidyL_plain ds h'.2]; rfl
end
mutual
theorem tidy_show : ∀ d : D, d.tidy = true → d.pd.showable = true
  | .non, _ => rfl
  | .bl _, _ => rfl
  | .int i, h => by
    have h := log2_40 (of_decide_eq_true h)
    exact decide_eq_true (by omega)
  | .str _, _ => rfl
  | .tup ds, h => tidyL_show ds h
  | .lst ds, h => tidyL_show ds h
  | .scr _, h => nomatch h
  | .dct _ _, h => nomatch h
  | .ins _ _ _, h => nomatch h
  | .cls _, h => nomatch h
  | .tpn _, h => nomatch h
  | .exn _ _ _, h => nomatch h
theorem tidyL_show : ∀ ds : List D, tidyL ds = true → PyData.showableAll (pdL ds) = true
  | [], _ => rfl
  | d :: ds, h => by
    have h' := Bool.and_eq_true_iff.mp h
    show (d.pd.showable && PyData.showableAll (pdL ds)) = true
    rw [tidy_show d h'.1, tidyL_show ds h'.2]; rfl
end
mutual
theorem tidy_short : ∀ d : D, d.tidy = true → PyData.leavesShort 41 d.pd = true
  | .non, _ => rfl
  | .bl _, _ => rfl
  | .int i, h => decide_eq_true (by
    have h1 := PySem.int_text_length_le10 (a := i) (k := 40) (by decide) (of_decide_eq_true h)
    have e : (PyData.int i).shown.length = (toString i).length := by
      show (Str.ofString (toString i)).length = _
      exact PySem.ofString_length _
    omega)
  | .str x, h => (Bool.and_eq_true_iff.mp h).1
  | .tup ds, h => tidyL_short ds h
  | .lst ds, h => tidyL_short ds h
  | .scr _, h => nomatch h
  | .dct _ _, h => nomatch h
  | .ins _ _ _, h => nomatch h
  | .cls _, h => nomatch h
  | .tpn _, h => nomatch h
  | .exn _ _ _, h => nomatch h
theorem tidyL_short : ∀ ds : List D, tidyL ds = true → PyData.leavesShortAll 41 (pdL ds) = true
  | [], _ => rfl
  | d :: ds, h => by
    have h' := Bool.and_eq_true_iff.mp h
    show (PyData.leavesShort 41 d.pd && PyData.leavesShortAll 41 (pdL ds)) = true
    rw [tidy_short d h'.1, tidyL_short ds h'.2]; rfl
end
mutual
theorem tidy_weight : ∀ d : D, d.tidy = true → d.pd.weight + 1 ≤ 150 * d.nodes
  | .non, _ => by decide
  | .bl _, _ => by show 0 + 1 ≤ 150 * 1; decide
  | .int i, h => by
    have h := log2_40 (of_decide_eq_true h)
    show (if i == 0 then 0 else i.natAbs.log2 + 1) + 1 ≤ 150 * 1
    split <;> omega
  | .str x, h => by
    have h := of_decide_eq_true (Bool.and_eq_true_iff.mp h).2
    show x.cps.size + 1 ≤ 150 * 1
    omega
  | .tup ds, h => by
    have := tidyL_weight ds h
    show PyData.weightAll (pdL ds) + 1 ≤ 150 * (nodesL ds + 1)
    omega
  | .lst ds, h => by
    have := tidyL_weight ds h
    show PyData.weightAll (pdL ds) + 1 ≤ 150 * (nodesL ds + 1)
    omega
  | .scr _, h => nomatch h
  | .dct _ _, h => nomatch h
  | .ins _ _ _, h => nomatch h
  | .cls _, h => nomatch h
  | .tpn _, h => nomatch h
  | .exn _ _ _, h => nomatch h
theorem tidyL_weight : ∀ ds : List D, tidyL ds = true → PyData.weightAll (pdL ds) ≤ 150 * nodesL ds
  | [], _ => Nat.zero_le _
  | d :: ds, h => by
    have h' := Bool.and_eq_true_iff.mp h
    have a := tidy_weight d h'.1
    have b := tidyL_weight ds h'.2
    show d.pd.weight + 1 + PyData.weightAll (pdL ds) ≤ 150 * (d.nodes + nodesL ds)
    omega
end
theorem shows_of {d : D} (h : d.tidy = true) (hd : d.pd.depth ≤ 64) (hn : d.nodes ≤ 1000) : d.Shows := by
  refine ⟨tidy_plain d h, tidy_show d h, hd, ?_⟩
  have a := PyData.shown_le 41 (by decide) d.pd (tidy_short d h)
  have b := tidy_weight d h
  rw [sizeLine_eq]
  omega
end LV
namespace LV
open PySem PySem.Spec L2
def SgOk (s : Str) : Prop := ∀ c ∈ s.cps.toList, c < 0x110000
theorem chr_lt (c : Char) : c.toNat < 0x110000 := by
  have h := c.valid
  have e : c.toNat = c.val.toNat := rfl
  rw [e]
  rcases h with h | h
  · exact Nat.lt_of_lt_of_le h (by decide)
  · exact h.2
theorem sg_ofS (s : String) : SgOk (Str.ofString s) := fun c hc => by
  rw [PyProof.Rows.signs_ofString] at hc
  obtain ⟨x, _, rfl⟩ := List.mem_map.mp hc
  exact chr_lt x
theorem sg_app {a b : Str} (ha : SgOk a) (hb : SgOk b) : SgOk (a ++ b) := fun c hc => by
  rcases PyProof.Rows.mem_cps_append.mp hc with h | h
  · exact ha c h
  · exact hb c h
theorem sg_join {sep : Str} {ts : List Str} (hs : SgOk sep) (ht : ∀ t ∈ ts, SgOk t) : SgOk (Str.join sep ts) := fun c hc => by
  rcases (PyProof.Rows.mem_join sep c ts).mp hc with ⟨t, h1, h2⟩ | ⟨_, h⟩
  · exact ht t h1 c h2
  · exact hs c h
theorem sg_reprChar {q c k : Nat} (hc : c < 0x110000) (h : k ∈ PySem.Builtin.Str.reprChar q c) : k < 0x110000 := by
  have hx : ∀ n : Nat, k ∈ List.replicate (n - ((Nat.toDigits 16 c).map Char.toNat).length) 48 ++ (Nat.toDigits 16 c).map Char.toNat → k < 0x110000 := fun n h => by
    rcases List.mem_append.mp h with h | h
    · rw [(List.mem_replicate.mp h).2]; decide
    · obtain ⟨x, _, rfl⟩ := List.mem_map.mp h
      exact chr_lt x
  have h2 : ∀ a b n : Nat, a < 0x110000 → b < 0x110000 → k ∈ [a, b] ++ (List.replicate (n - ((Nat.toDigits 16 c).map Char.toNat).length) 48 ++ (Nat.toDigits 16 c).map Char.toNat) → k < 0x110000 := fun a b n ha hb h => by
    rcases List.mem_append.mp h with h | h
    · simp only [List.mem_cons, List.not_mem_nil, or_false] at h
      rcases h with rfl | rfl <;> assumption
    · exact hx n h
  unfold PySem.Builtin.Str.reprChar at h
  dsimp only at h
  split at h
  · simp only [List.mem_cons, List.not_mem_nil, or_false] at h
    rcases h with rfl | rfl
    · decide
    · exact hc
  split at h
  · simp only [List.mem_cons, List.not_mem_nil, or_false] at h
    rcases h with rfl | rfl <;> decide
  split at h
  · simp only [List.mem_cons, List.not_mem_nil, or_false] at h
    rcases h with rfl | rfl <;> decide
  split at h
  · simp only [List.mem_cons, List.not_mem_nil, or_false] at h
    rcases h with rfl | rfl <;> decide
  split at h
  · rw [List.mem_singleton.mp h]; exact hc
  split at h
  · exact h2 _ _ _ (by decide) (by decide) h
  split at h
  · exact h2 _ _ _ (by decide) (by decide) h
  · exact h2 _ _ _ (by decide) (by decide) h
theorem fold_mem {f : Nat → List Nat} {k : Nat} : ∀ (l : List Nat) (acc : Array Nat), k ∈ (l.foldl (fun out c => out ++ (f c).toArray) acc).toList → k ∈ acc.toList ∨ ∃ c ∈ l, k ∈ f c
  | [], acc, h => .inl h
  | c :: l, acc, h => by
    rcases fold_mem l (acc ++ (f c).toArray) h with h | ⟨c', h1, h2⟩
    · rw [Array.toList_append] at h
      rcases List.mem_append.mp h with h | h
      · exact .inl h
      · exact .inr ⟨c, List.mem_cons_self, h⟩
    · exact .inr ⟨c', List.mem_cons_of_mem _ h1, h2⟩
theorem sg_repr {x : Str} (h : SgOk x) : SgOk (reprText x) := fun k hk => by
  have hq : reprQuote x < 0x110000 := by unfold reprQuote; split <;> decide
  unfold reprText at hk
  change k ∈ ((x.cps.foldl (fun out c => out ++ (PySem.Builtin.Str.reprChar (reprQuote x) c).toArray) #[reprQuote x]).push (reprQuote x)).toList at hk
  rw [Array.toList_push] at hk
  rcases List.mem_append.mp hk with hk | hk
  · have e : x.cps.foldl (fun out c => out ++ (PySem.Builtin.Str.reprChar (reprQuote x) c).toArray) #[reprQuote x] = x.cps.toList.foldl (fun out c => out ++ (PySem.Builtin.Str.reprChar (reprQuote x) c).toArray) #[reprQuote x] := by rw [Array.foldl_toList]
    rw [e] at hk
    rcases fold_mem (f := PySem.Builtin.Str.reprChar (reprQuote x)) _ _ hk with hk | ⟨c, h1, h2⟩
    · have e2 : k = reprQuote x := by simpa using hk
      rw [e2]; exact hq
    · exact sg_reprChar (h c h1) h2
  · rw [List.mem_singleton.mp hk]; exact hq
mutual
/-- texts with signs only -/
def D.sg : D → Prop
  | .str x => SgOk x
  | .tup ds => sgL ds
  | .lst ds => sgL ds
  | .non => True
  | .bl _ => True
  | .int _ => True
  | _ => False
def sgL : List D → Prop
  | [] => True
  | d :: ds => d.sg ∧ sgL ds
end
theorem sgL_of : ∀ {ds : List D}, (∀ d ∈ ds, d.sg) → sgL ds
  | [], _ => trivial
  | d :: ds, h => ⟨h d List.mem_cons_self, sgL_of fun x hx => h x (List.mem_cons_of_mem _ hx)⟩
mutual
theorem sg_shown : ∀ d : D, d.sg → SgOk d.pd.shown
  | .non, _ => sg_ofS _
  | .bl b, _ => by
    cases b
    · exact sg_ofS _
    · exact sg_ofS _
  | .int i, _ => sg_ofS _
  | .str x, h => sg_repr h
  | .tup ds, h => by
    show SgOk (PyData.tuple (pdL ds)).shown
    rw [PyData.shown_tuple]
    exact sg_app (sg_app (sg_ofS _) (sg_join (sg_ofS _) (sgL_shown ds h))) (sg_ofS _)
  | .lst ds, h => by
    show SgOk (PyData.list (pdL ds)).shown
    rw [PyData.shown_list]
    exact sg_app (sg_app (sg_ofS _) (sg_join (sg_ofS _) (sgL_shown ds h))) (sg_ofS _)
  | .scr _, h => h.elim
  | .dct _ _, h => h.elim
  | .ins _ _ _, h => h.elim
  | .cls _, h => h.elim
  | .tpn _, h => h.elim
  | .exn _ _ _, h => h.elim
  | .ptr _, h => h.elim
theorem sgL_shown : ∀ ds : List D, sgL ds → ∀ t ∈ PyData.shownAll (pdL ds), SgOk t
  | [], _, t, h => nomatch h
  | d :: ds, h, t, ht => by
    rcases List.mem_cons.mp ht with rfl | ht
    · exact sg_shown d h.1
    · exact sgL_shown ds h.2 t ht
end
end LV
set_option exponentiation.threshold 10000
namespace LV
open PySem PySem.Spec L2
open PySem.W (dataLt dataLe AllAlike Sortable alike alikeAll dataLt_cons dataLt_tuple dataLt_ii keyToksAll)
open PyProof.Rows (itemOrd lex_irrefl)
def isInt : D → Bool
  | .int _ => true
  | _ => false
def S_is_integer : FSpec := fun args Q _ => ∃ d, args = [.fz d] ∧ d.plain = true ∧ Q (.fz (.bl (isInt d))) args
theorem mS_is_integer : MonoF S_is_integer := ⟨fun h _ ⟨d, a, b, q⟩ => ⟨d, a, b, h _ _ q⟩⟩
theorem kp_is_integer : Keeps S_is_integer [] 1 1 w_is_integer where
  fit := fun args Q E ⟨d, a, _⟩ => a ▸ fit1
  run := fun args Q E ⟨d, a, ht, q⟩ => by
    subst a
    unfold w_is_integer
    walk_at "lv"
    cases d <;> simp [D.ty, isInt, isaT] at ht q ⊢ <;> first | exact q | exact ⟨_, rfl, q⟩ | cases ht
def entOk : D → Bool
  | .int i => decide (0 ≤ i)
  | _ => false
def wOk (n : Nat) : D → Bool
  | .int k => decide ((n : Int) = k)
  | _ => true
def isRowD (v w : D) : Bool := match v with
  | .tup ds => decide (1 ≤ ds.length) && decide (ds.length ≤ 8) && wOk ds.length w && ds.all entOk
  | _ => false
def WidOk (w : D) : Prop := w = .non ∨ ∃ k, w = .int k
def S_is_row : FSpec := fun args Q _ => ∃ v w, args = [.fz v, .fz w] ∧ v.plain = true ∧ WidOk w ∧ Q (.fz (.bl (isRowD v w))) args
theorem mS_is_row : MonoF S_is_row := ⟨fun h _ ⟨d, w, a, b, c, q⟩ => ⟨d, w, a, b, c, h _ _ q⟩⟩
theorem lp_is_row (K : Ks) (a b : Option Val) : ∀ (l : List D) (o : Option Val), plainL l = true → (l.all entOk = true → ∀ o, K.nx [a, b, o]) → (l.all entOk = false → ∀ o, K.rt (.fz (.bl false)) [a, b, o]) →
    loopW (.n 2) (wIf (wtOr (wtNot (wTru (wCall S_is_integer (wCons (wFrz (wVar 2)) wNil)))) (wB (wOp2 gLt (wVar 2) (wC (.int 0))))) (wRet [] (wC (.bl false))) wSkip) yesK K l [a, b, o]
  | [], o, _, h, _ => ⟨True.intro, h rfl _⟩
  | d :: l, o, hp, h, h' => by
    obtain ⟨hp1, hp2⟩ := Bool.and_eq_true_iff.mp hp
    walk_at "lv"
    simp only [S_is_integer]
    walk_at "lv"
    refine ⟨hp1, ?_⟩
    cases d <;> simp only [isInt, Bool.not_true, Bool.not_false, if_true, Bool.false_eq_true, if_false] <;> try exact h' rfl _
    walk_at "lv"
    rename_i i
    by_cases hi : i < 0
    · rw [if_pos (decide_eq_true hi)]
      exact h' (by rw [List.all_cons, entOk, decide_eq_false (by omega), Bool.false_and]) _
    · rw [if_neg (by simpa using hi)]
      have e : (D.int i :: l).all entOk = l.all entOk := by rw [List.all_cons, entOk, decide_eq_true (by omega), Bool.true_and]
      rw [e] at h h'
      exact lp_is_row K a b l _ hp2 h h'
theorem kp_is_row : Keeps S_is_row [] 2 3 (w_is_row S_is_integer) where
  fit := fun args Q E ⟨xs, ys, a, _⟩ => a ▸ fit2
  run := fun args Q E ⟨v, w, a, hv, hw, q⟩ => by
    subst a
    unfold w_is_row
    walk_at "lv"
    obtain ⟨t, ht⟩ := plain_ty hv
    refine ⟨t, ht, ?_⟩
    cases v <;> simp only [D.ty, Option.some.injEq, reduceCtorEq] at ht <;> subst ht <;> simp only [isaT, decide_true, decide_false, Bool.not_true, Bool.not_false, if_true, reduceCtorEq, Bool.false_eq_true, if_false] <;> try exact q
    case tpn => cases hv
    rename_i ds _
    have hp : plainL ds = true := hv
    walk_at "lv"
    refine iteB (fun h1 => ?_) (fun h1 => ?_)
    case refine_2 =>
      have h1 := of_decide_eq_false h1
      rw [show isRowD (.tup ds) w = false from by simp only [isRowD]; rw [decide_eq_false (by omega)]; rfl] at q
      exact q
    have h1 := of_decide_eq_true h1
    refine iteB (fun h8 => ?_) (fun h8 => ?_)
    case refine_1 =>
      have h8 := of_decide_eq_false (Bool.not_eq_true' _ ▸ h8)
      rw [show isRowD (.tup ds) w = false from by simp only [isRowD]; rw [decide_eq_false (p := ds.length ≤ 8) (by omega), Bool.and_false]; rfl] at q
      exact q
    have h8 := of_decide_eq_true (Bool.not_eq_false' _ ▸ h8)
    have e0 : isRowD (.tup ds) w = (wOk ds.length w && ds.all entOk) := by simp only [isRowD]; rw [decide_eq_true (p := 1 ≤ ds.length) (by omega), decide_eq_true (p := ds.length ≤ 8) (by omega), Bool.true_and, Bool.true_and]
    rw [e0] at q
    rcases hw with rfl | ⟨k, rfl⟩
    · walk_at "lv"
      have e1 : (wOk ds.length D.non && ds.all entOk) = ds.all entOk := Bool.true_and _
      rw [e1] at q
      refine lp_is_row _ _ _ _ _ hp (fun h o => ?_) (fun h o => ?_) <;> (rw [h] at q; exact q)
    · walk_at "lv"
      refine iteB (fun hk => ?_) (fun hk => ?_)
      · have hk : ¬ (ds.length : Int) = k := by simpa using hk
        rw [wOk, decide_eq_false hk, Bool.false_and] at q
        exact q
      · have hk : (ds.length : Int) = k := by simpa using hk
        have e1 : (wOk ds.length (.int k) && ds.all entOk) = ds.all entOk := by rw [wOk, decide_eq_true hk, Bool.true_and]
        rw [e1] at q
        refine lp_is_row _ _ _ _ _ hp (fun h o => ?_) (fun h o => ?_) <;> (rw [h] at q; exact q)
def S_check_row : FSpec := fun args Q E => ∃ v w, args = [.fz v, .fz w] ∧ v.plain = true ∧ WidOk w ∧ (isRowD v w = true → Q (.fz .non) args) ∧ (isRowD v w = false → E ⟨"InvalidRow", ["value"], [v]⟩ args)
theorem mS_check_row : MonoF S_check_row := ⟨fun h h' ⟨d, w, a, b, c, q, e⟩ => ⟨d, w, a, b, c, fun k => h _ _ (q k), fun k => h' _ _ (e k)⟩⟩
theorem kp_check_row : Keeps S_check_row [] 2 2 (w_check_row S_is_row) where
  fit := fun args Q E ⟨xs, ys, a, _⟩ => a ▸ fit2
  run := fun args Q E ⟨v, w, a, hv, hw, q, e⟩ => by
    subst a
    unfold w_check_row
    walk_at "lv"
    simp only [S_is_row]
    walk_at "lv"
    exact ⟨hv, hw, iteB (fun h => e (by simpa using h)) fun h => q (by simpa using h)⟩
def firstBad : D → List D → Option D
  | _, [] => none
  | w, v :: r => if isRowD v w = true then (match v with
    | .tup ds => firstBad (.int ds.length) r
    | _ => none) else some v
def S_entries_cover : FSpec := fun args Q _ => ∃ xs ys : List Int, args = [.fz (rowD xs), .fz (rowD ys)] ∧ Q (.fz (.bl (cov xs ys))) args
theorem mS_entries_cover : MonoF S_entries_cover := ⟨fun h _ ⟨d, a, b, q⟩ => ⟨d, a, b, h _ _ q⟩⟩
theorem lp_entries_cover (K : Ks) (a b : Option Val) : ∀ (l : List (Int × Int)) (o1 o2 : Option Val), (l.all (fun p => decide (p.2 ≤ p.1)) = true → ∀ o1 o2, K.nx [a, b, o1, o2]) → (l.all (fun p => decide (p.2 ≤ p.1)) = false → ∀ o1 o2, K.rt (.fz (.bl false)) [a, b, o1, o2]) →
    loopW (.t [2, 3]) (wIf (wB (wOp2 gLt (wVar 2) (wVar 3))) (wRet [] (wC (.bl false))) wSkip) yesK K (l.map fun p => D.tup [.int p.1, .int p.2]) [a, b, o1, o2]
  | [], o1, o2, h, _ => ⟨True.intro, h rfl _ _⟩
  | p :: l, o1, o2, h, h' => by
    walk_at "lv"
    by_cases hp : p.1 < p.2
    · rw [if_pos (decide_eq_true hp)]
      exact h' (by rw [List.all_cons, decide_eq_false (by omega), Bool.false_and]) _ _
    · rw [if_neg (by simpa using hp)]
      have e : (p :: l).all (fun p => decide (p.2 ≤ p.1)) = l.all fun p => decide (p.2 ≤ p.1) := by rw [List.all_cons, decide_eq_true (by omega), Bool.true_and]
      rw [e] at h h'
      exact lp_entries_cover K a b l _ _ h h'
theorem kp_entries_cover : Keeps S_entries_cover [] 2 4 w_entries_cover where
  fit := fun args Q E ⟨xs, ys, a, _⟩ => a ▸ fit2
  run := fun args Q E ⟨xs, ys, a, q⟩ => by
    subst a
    unfold w_entries_cover
    walk_at "lv"
    rw [zipD_ints]
    refine lp_entries_cover _ _ _ _ _ _ (fun h o1 o2 => ?_) (fun h o1 o2 => ?_)
    · walk_at "lv"; rw [← h]; exact q
    · walk_at "lv"; rw [← h]; exact q
def S_check_rows : FSpec := fun args Q E => ∃ l, args = [.fz (.lst l)] ∧ plainL l = true ∧ (firstBad .non l = none → Q (.fz .non) args) ∧ (∀ v, firstBad .non l = some v → E ⟨"InvalidRow", ["value"], [v]⟩ args)
theorem mS_check_rows : MonoF S_check_rows := ⟨fun h h' ⟨d, a, b, q, e⟩ => ⟨d, a, b, fun k => h _ _ (q k), fun v k => h' _ _ (e v k)⟩⟩
theorem lp_check_rows (K : Ks) (a : Option Val) : ∀ (l : List D) (w : D) (o : Option Val), plainL l = true → WidOk w → (firstBad w l = none → ∀ w o, K.nx [a, w, o]) → (∀ v, firstBad w l = some v → ∀ w o, K.ex ⟨"InvalidRow", ["value"], [v]⟩ [a, w, o]) →
    loopW (.n 2) (wSeq (wExp (wCall S_check_row (wCons (wFrz (wVar 2)) (wCons (wFrz (wVar 1)) wNil)))) (wSet 1 (wBlt gLen (wCons (wVar 2) wNil)))) yesK K l [a, some (.fz w), o]
  | [], w, o, _, _, h, _ => ⟨True.intro, h rfl _ _⟩
  | v :: l, w, o, hp, hw, h, h' => by
    obtain ⟨hp1, hp2⟩ := Bool.and_eq_true_iff.mp hp
    walk_at "lv"
    simp only [S_check_row]
    walk_at "lv"
    refine ⟨hp1, hw, fun k => ?_, fun k => ?_⟩
    · obtain ⟨ds, rfl⟩ : ∃ ds, v = .tup ds := by cases v <;> first | exact ⟨_, rfl⟩ | (simp [isRowD] at k)
      walk_at "lv"
      refine lp_check_rows K a l _ _ hp2 (.inr ⟨_, rfl⟩) (fun z => h ?_) (fun x z => h' x ?_) <;> (unfold firstBad; rw [if_pos k]; exact z)
    · exact h' v (by unfold firstBad; rw [if_neg (by rw [k]; decide)]) _ _
theorem kp_check_rows : Keeps S_check_rows [] 1 3 (w_check_rows S_check_row) where
  fit := fun args Q E ⟨xs, a, _⟩ => a ▸ fit1
  run := fun args Q E ⟨l, a, hp, q, e⟩ => by
    subst a
    unfold w_check_rows
    walk_at "lv"
    exact lp_check_rows _ _ _ _ _ hp (.inl rfl) (fun z _ _ => q z) (fun v z _ _ => e v z)
theorem ents_row : ∀ {ds : List D}, ds.all entOk = true → ∃ r : List Int, ds = r.map D.int ∧ ∀ x ∈ r, 0 ≤ x
  | [], _ => ⟨[], rfl, fun _ h => (nomatch h)⟩
  | d :: ds, h => by
    rw [List.all_cons, Bool.and_eq_true_iff] at h
    obtain ⟨r, e, hr⟩ := ents_row h.2
    cases d with
    | int i =>
      refine ⟨i :: r, by rw [e]; rfl, fun x hx => ?_⟩
      rcases List.mem_cons.mp hx with z | z
      · rw [z]; exact of_decide_eq_true h.1
      · exact hr x z
    | _ => exact nomatch h.1
theorem isRowD_row {v w : D} (h : isRowD v w = true) : ∃ r : List Int, v = rowD r ∧ (∀ x ∈ r, 0 ≤ x) ∧ 1 ≤ r.length ∧ r.length ≤ 8 ∧ wOk r.length w = true := by
  cases v with
  | tup ds =>
    simp only [isRowD, Bool.and_eq_true_iff] at h
    obtain ⟨r, e, hr⟩ := ents_row h.2
    subst e
    rw [List.length_map] at h
    exact ⟨r, rfl, hr, of_decide_eq_true h.1.1.1, of_decide_eq_true h.1.1.2, h.1.2⟩
  | _ => exact nomatch h
abbrev IR (v : D) : Xn := ⟨"InvalidRow", ["value"], [v]⟩
def lenD : D → Int
  | .tup ds => ds.length
  | _ => 0
end LV
set_option maxHeartbeats 1000000
namespace LV
open PySem PySem.Spec L2
end LV
namespace LV
open PySem PySem.Spec L2
theorem uYes_i' {env : En} {Q : Bool → En → Prop} {E : XW} (h : Q true env) : uYes env Q E := h
section
variable {env e1 e2 : En} {wa wb w wc : EW} {a b c : Str} {i j m : Nat} {k : Bool} {ds es : List D} {d : D}
theorem ix_tup {j : Nat} {Q : Rv → Prop} (h : ds[j]? = some d) (q : Q (.fz d)) : gIx (.tup ds) (.int (j : Int)) Q := ⟨d, at_nat h, q⟩
theorem ix_l {j : Nat} {Q : Rv → Prop} (h : ds[j]? = some d) (q : Q (.fz d)) : gIx (.lst ds) (.int (j : Int)) Q := ⟨d, at_nat h, q⟩
theorem ev_ixl (j : Nat) (ha : Ev env wa (.lst ds) e1) (hb : Ev e1 wb (.int (j : Int)) e2) (h : ds[j]? = some d) : EvR env (wOp2 gIx wa wb) (.fz d) e2 := ev_op ha hb fun Q' q => ix_l h q
theorem ev_neg {x : Int} : EvR env (wNeg (wC (.int x))) (.fz (.int (-x))) env := ⟨fun {Q E} q => by
  unfold wNeg
  exact ⟨x, rfl, q⟩⟩
theorem ev_isN {env e1 : En} {w : EW} {d : D} (h : Ev env w d e1) : EvR env (wOp2 gIsN w (wC .non)) (.fz (.bl (isN d))) e1 := ev_op h cx fun Q' q => ⟨rfl, q⟩
theorem ev_nei {env e1 e2 : En} {wa wb : EW} {a : Int} (ha : Ev env wa (.int a) e1) (hb : Ev e1 wb (.int a) e2) : EvR env (wOp2 gNe wa wb) (.fz (.bl false)) e2 := ev_op ha hb fun Q' q => ⟨rfl, rfl, by
  rw [eqv_ii, beq_self_eq_true]; exact q⟩
theorem cut_last {ds : List D} : cutD ds none (some (-1)) = ds.take (ds.length - 1) := by
  unfold cutD
  rw [HT.sIx_none]
  have e : HT.sIx ds.length ds.length (some (-1)) = ds.length - 1 := by
    unfold HT.sIx
    simp
    omega
  rw [e]; simp
theorem cut_take {ds : List D} {k : Nat} : cutD ds none (some (k : Int)) = ds.take k := by
  unfold cutD
  rw [HT.sIx_none, HT.sIx_nat]
  simp
theorem cut_drop {ds : List D} {k : Nat} : cutD ds (some (k : Int)) none = ds.drop k := by
  unfold cutD
  rw [HT.sIx_none, HT.sIx_nat]
  by_cases h : k ≤ ds.length
  · rw [Nat.min_eq_left h, List.take_of_length_le (by rw [List.length_drop]; omega)]
  · rw [List.drop_eq_nil_of_le (by omega : ds.length ≤ k), List.drop_eq_nil_of_le (by omega)]; simp
end
section
variable {env e1 e2 : En} {wa wb wc : EW} {a b c : Int} {k : Bool}
theorem ev_gei {wa wb : EW} (ha : Ev env wa (.int a) e1) (hb : Ev e1 wb (.int b) e2) (h : decide (b ≤ a) = k) : EvR env (wOp2 gGe wa wb) (.fz (.bl k)) e2 := ev_op ha hb fun Q' q => by rw [gGe_ii, h]; exact q
theorem ev_lti {wa wb : EW} (ha : Ev env wa (.int a) e1) (hb : Ev e1 wb (.int b) e2) (h : decide (a < b) = k) : EvR env (wOp2 gLt wa wb) (.fz (.bl k)) e2 := ev_op ha hb fun Q' q => by rw [gLt_ii, h]; exact q
theorem ev_addi {wa wb : EW} (ha : Ev env wa (.int a) e1) (hb : Ev e1 wb (.int b) e2) : EvR env (wOp2 gAdd wa wb) (.fz (.int (a + b))) e2 := ev_op ha hb fun Q' q => by rw [gAdd_ii]; exact q
theorem ev_subi {wa wb : EW} (ha : Ev env wa (.int a) e1) (hb : Ev e1 wb (.int b) e2) : EvR env (wOp2 gSub wa wb) (.fz (.int (a - b))) e2 := ev_op ha hb fun Q' q => by rw [gSub_ii]; exact q
theorem ev_eqi' {wa wb : EW} (ha : Ev env wa (.int a) e1) (hb : Ev e1 wb (.int b) e2) (h : decide (a = b) = k) : EvR env (wOp2 gEq wa wb) (.fz (.bl k)) e2 := ev_op ha hb fun Q' q => ⟨rfl, rfl, by
  rw [eqv_ii, show (a == b) = decide (a = b) by rw [Bool.eq_iff_iff, beq_iff_eq, decide_eq_true_eq], h]; exact q⟩
theorem ev_lent {w : EW} {ds : List D} (h : Ev env w (.tup ds) e1) : EvR env (wBlt gLen (wCons w wNil)) (.fz (.int (ds.length : Int))) e1 := ev_blt (evl_cons h evl_nil) fun Q' q => q
end
section
variable {env e1 e2 : En} {w wa wb : EW} {ds es : List D} {i j : Int} {K : Ks} {tg : Tg} {body : SW} {pn : List Nat}
theorem ev_slLR (h : Ev env w (.lst ds) env) (hw : EvR env wa (.fz (.int i)) env) : EvR env (wSl w wNoP (wPt wa)) (.ow (.lst (cutD ds none (some i)))) env := ⟨fun {Q E} q => by
  unfold wSl wNoP wPt
  exact h.go (hw.go ⟨i, rfl, .lst ds, rfl, q⟩)⟩
theorem ev_addL (ha : Ev env wa (.lst ds) e1) (hb : Ev e1 wb (.lst es) e2) (h : ds.length + es.length ≤ 1000) : EvR env (wOp2 gAdd wa wb) (.ow (.lst (ds ++ es))) e2 := ev_op ha hb fun Q' q => ⟨by have := sizeLine_eq; omega, q⟩
end
section
variable {env e1 : En} {wl : AW} {ds : List D} {S : FSpec} {C : Str} {Q : Rv → En → Prop} {E : XW} {u : TW} {s1 s2 : SW} {K : Ks} {pn : List Nat}
theorem call_both (mS : MonoF S) (hl : EvL env wl ds e1) (q : S (ds.map .fz) (fun r as => as = ds.map .fz ∧ (∀ i, r ≠ .sl i) ∧ Q r e1) (fun x as => as = ds.map .fz ∧ E x e1)) : wCall S wl env Q E := by
  unfold wCall
  refine hl.go ⟨_, valL_fz ds, by rw [slots_fz]; exact List.nodup_nil, mS.mo (fun r as ⟨e, n, z⟩ => ?_) (fun x as ⟨e, z⟩ => ?_) q⟩
  · subst e; exact ⟨backOk_fz ds, n, by rw [putL_fz]; exact z⟩
  · subst e; exact ⟨backOk_fz ds, by rw [putL_fz]; exact z⟩
theorem sk_f (h : EvT env u false e1) (q : s2 K e1) : wSeq (wIf u s1 wSkip) s2 K env := run_if_f (K := { K with nx := fun e => s2 K e }) h q
theorem sk_t (h : EvT env u true e1) (q : ∀ K' : Ks, K'.rt = K.rt → K'.ex = K.ex → s1 K' e1) : wSeq (wIf u s1 wSkip) s2 K env := run_if_t (K := { K with nx := fun e => s2 K e }) h (q _ rfl rfl)
end
section
variable {α : Type} {g f : α → D} {w : EW}
theorem cw_mapL {tg : Tg} {vs : List Nat} {keep : KeepE} {Q : List D → En → Prop} {env : En} (hk : keep env) : ∀ (xs : List α) (acc : List D), (∀ x ∈ xs, ∃ e1, bindT tg (g x) env = some e1 ∧ wipeE e1 vs = env ∧ Ev e1 w (f x) e1) → acc.length + xs.length < sizeLine → Q (acc ++ xs.map f) env → compW tg uYes w vs keep Q (xs.map g) acc env
  | [], acc, _, _, q => ⟨hk, by rw [List.map_nil, List.append_nil] at q; exact q⟩
  | x :: xs, acc, h, hl, q => by
    rw [List.length_cons] at hl
    obtain ⟨e1, h1, h2, h3⟩ := h x List.mem_cons_self
    refine ⟨hk, e1, h1, ?_⟩
    refine uYes_i' ?_
    rw [if_pos rfl]
    refine h3.go ⟨f x, e1, rfl, by omega, ?_⟩
    rw [h2]
    refine cw_mapL hk xs (acc ++ [f x]) (fun y hy => h y (List.mem_cons_of_mem _ hy)) (by rw [List.length_append, List.length_singleton]; omega) ?_
    rw [List.append_assoc]
    exact q
theorem lc_mapL {i : Nat} {pn : List Nat} {wa : EW} {env e1 : En} {d : D} {xs : List α} (hi : EvR env wa (.fz d) e1) (hx : itemsD d = some (xs.map g))
    (he : ∀ x ∈ xs, Ev ((e1.set i none).set i (some (.fz (g x)))) w (f x) ((e1.set i none).set i (some (.fz (g x))))) (hl : xs.length < 1000) : EvR env (wLc (.n i) (wIt pn wa) uYes w [i]) (.ow (.lst (xs.map f))) (e1.set i none) :=
  ev_lc hi hx fun Q q => by
    have sz := sizeLine_eq
    refine cw_mapL True.intro xs [] (fun x hx => ⟨_, rfl, ?_, he x hx⟩) (by rw [List.length_nil]; omega) q
    simp only [wipeE, List.set_set]
end
section
variable {env e1 : En} {w wa wb : EW} {i : Nat} {ds : List D} {d : D} {j k : Nat} {pn : List Nat}
theorem ev_lcW {tg : Tg} {acc : List D} {sl : List Nat} {u : TW} {e2 : En} (h : EvR env wa (.ow (.lst ds)) e1) (hc : ∀ Q : List D → En → Prop, Q acc e2 → compW tg u w sl yesK Q ds [] (wipeE e1 sl)) : EvR env (wLc tg (wIt pn wa) u w sl) (.ow (.lst acc)) e2 := ⟨fun {Q E} q => by
  unfold wLc wIt
  refine h.go ?_
  exact ⟨ds, rfl, hc _ q⟩⟩
theorem lc_mapW {α : Type} {g f : α → D} {xs : List α} (hi : EvR env wa (.ow (.lst (xs.map g))) e1)
    (he : ∀ x ∈ xs, Ev ((e1.set i none).set i (some (.fz (g x)))) w (f x) ((e1.set i none).set i (some (.fz (g x))))) (hl : xs.length < 1000) : EvR env (wLc (.n i) (wIt pn wa) uYes w [i]) (.ow (.lst (xs.map f))) (e1.set i none) :=
  ev_lcW hi fun Q q => by
    have sz := sizeLine_eq
    refine cw_mapL True.intro xs [] (fun x hx => ⟨_, rfl, ?_, he x hx⟩) (by rw [List.length_nil]; omega) q
    simp only [wipeE, List.set_set]
end
section
variable {env e1 e2 : En} {w : EW} {wl : AW} {K : Ks} {ds : List D} {d : D} {i : Nat} {S : FSpec} {x : Xn}
theorem evx_call (hl : EvL env wl ds e1) (hS : ∀ {Q' : Rv → List Val → Prop} {E' : Xn → List Val → Prop}, E' x (ds.map .fz) → S (ds.map .fz) Q' E') : EvX env (wCall S wl) x e1 := ⟨fun {Q E} q => by
  unfold wCall
  exact hl.go ⟨_, valL_fz ds, by rw [slots_fz]; exact List.nodup_nil, hS ⟨backOk_fz ds, by rw [putL_fz]; exact q⟩⟩⟩
end
theorem run_forD {K : Ks} {env e1 : En} {tg : Tg} {w : EW} {pn : List Nat} {body : SW} {d : D} {xs : List D} (h : EvR env w (.fz d) e1) (hx : itemsD d = some xs) (q : loopW tg body yesK K xs e1) : wFor tg (wIt pn w) body K env := by
  unfold wFor wIt
  exact h.go ⟨xs, hx, q⟩
theorem run_forR {tg : Tg} {body : SW} {K : Ks} {env e1 : En} {wl : AW} {n : Nat} (el : EvL env wl [.int (n : Int)] e1) (hn : n ≤ 1000) (q : loopW tg body yesK K (rngD 0 n) e1) : wFor tg (wRng1 wl) body K env := by
  change wl env (fun rs e => ∃ j, lookL e rs = some [.int j] ∧ okR j ∧ loopW tg body yesK K (rngD 0 j.toNat) e) _
  refine el.go ⟨(n : Int), rfl, by unfold okR; omega, ?_⟩
  rw [Int.toNat_natCast]
  exact q
section
variable {env e1 e2 : En} {w wa wb : EW} {x j c : Nat}
theorem dv_ok {i j : Int} (h : 1 ≤ j) (h' : j < 10 ^ 40) : CDvA i j :=
  ⟨by omega, PyProof.noPylong_of_log2 (PySem.Flt.log2_lt_of (by decide) (show j.natAbs < 2 ^ 9000 from Nat.lt_trans (show j.natAbs < 2 ^ 140 by omega) (Nat.pow_lt_pow_right (by decide) (by decide))))⟩
theorem fm_nn {i j : Int} (h : 1 ≤ j) : 0 ≤ i.fmod j ∧ i.fmod j < j := by
  rw [Int.fmod_eq_emod_of_nonneg i (by omega)]
  exact ⟨Int.emod_nonneg _ (by omega), Int.emod_lt_of_pos _ (by omega)⟩
end
theorem nat_of {i : Int} (h : 0 ≤ i) : ∃ k : Nat, i = (k : Int) := ⟨i.toNat, by omega⟩
theorem lp_body {α β : Type} {K : Ks} {i : Nat} {g : α → D} {B : SW} {mk : Option Val → β → En} (hset : ∀ o p o', (mk o p).set i o' = mk o' p) : ∀ (l : List α) (o : Option Val) (p : β), (∀ a ∈ l, ∀ (K' : Ks) p, K'.rt = K.rt → K'.ex = K.ex → (∀ p', K'.nx (mk (some (.fz (g a))) p')) → B K' (mk (some (.fz (g a))) p)) → (∀ o p, K.nx (mk o p)) → loopW (.n i) B yesK K (l.map g) (mk o p)
  | [], o, p, _, q => ⟨True.intro, q o p⟩
  | a :: l, o, p, h, q => ⟨True.intro, _, rfl, by
    rw [hset]
    exact h a List.mem_cons_self _ p rfl rfl fun p' => lp_body hset l _ p' (fun b hb => h b (List.mem_cons_of_mem _ hb)) q⟩
section
variable {env e1 : En} {wl : AW} {w : EW} {i n : Nat}
/-- [f(k) for k in range(n)] -/
theorem lc_rngL {f : Nat → D} (hl : EvL env wl [.int (n : Int)] e1) (hn : n ≤ 900) (he : ∀ k, k < n → Ev ((e1.set i none).set i (some (.fz (.int (k : Int))))) w (f k) ((e1.set i none).set i (some (.fz (.int (k : Int)))))) : EvR env (wLc (.n i) (wRng1 wl) uYes w [i]) (.ow (.lst ((List.range n).map f))) (e1.set i none) :=
  ev_lcR hl (by omega) fun Q q => by
    have sz := sizeLine_eq
    have e : rngD 0 n = (List.range n).map fun k : Nat => D.int (k : Int) := by rw [rng_eq]; exact List.map_congr_left fun k _ => by rw [Int.zero_add]
    rw [e]
    refine cw_mapL (g := fun k : Nat => D.int (k : Int)) (f := f) True.intro (List.range n) [] (fun k hk => ⟨_, rfl, ?_, ?_⟩) (by rw [List.length_range]; show 0 + n < _; omega) q
    · simp only [wipeE, List.set_set]
    · simp only [wipeE]
      exact he k (List.mem_range.mp hk)
end
end LV
set_option maxHeartbeats 400000
namespace LV
open PySem PySem.Spec L2
open PySem.W (dataLt dataLe AllAlike Sortable alike alikeAll dataLt_cons dataLt_tuple dataLt_ii keyToksAll)
open PyProof.Rows (itemOrd lex_irrefl)
def BagOk (o : O) (m : Int) : Prop := ∃ (g s n : Int) (cs : List Int), o = .lst [.int g, .int s, .int n, .lst (cs.map D.int)] ∧ 0 ≤ s ∧ s < 2147483648 ∧ 0 ≤ n ∧ n ≤ m ∧ ∀ c ∈ cs, Builtin.Int.intBits c ≤ 1048576
def S__law_take : FSpec := fun args Q _ => ∃ o many m, args = [.ow o, .fz (.int many)] ∧ BagOk o m ∧ 1 ≤ many ∧ many < 10 ^ 40 ∧ m < 1000000000 ∧ ∀ d o', 0 ≤ d → d < many → BagOk o' (m + 1) → Q (.fz (.int d)) [.ow o', .fz (.int many)]
theorem mS__law_take : MonoF S__law_take := ⟨fun h _ ⟨o, k, m, a, b, c, d, e, q⟩ => ⟨o, k, m, a, b, c, d, e, fun x y h1 h2 h3 => h _ _ (q x y h1 h2 h3)⟩⟩
theorem bits31 {i : Int} (h : -2147483648 ≤ i) (h' : i ≤ 2147483648) : Builtin.Int.intBits i ≤ 32 := PyProof.Rows.intBits_le (by omega)
theorem kp__law_take : Keeps S__law_take [0] 2 8 w__law_take where
  fit := fun args Q E ⟨o, k, m, a, _⟩ => a ▸ fitO2
  run := fun args Q E ⟨o, many, m, a, ⟨g, s, n, cs, e, s0, s1, n0, n1, hc⟩, h1, h2, hm, q⟩ => by
    subst a e
    unfold w__law_take
    refine seq_k fun K1 hn hr hb hct he => ?_
    walk_at "lv"
    refine hn _ (seq_k fun K2 hn2 hr2 hb2 hct2 he2 => ?_)
    have bag2 : ∀ g', BagOk (.lst [.int g', .int s, .int (n + 1), .lst (cs.map D.int)]) (m + 1) := fun g' => ⟨g', s, n + 1, cs, rfl, s0, s1, by omega, by omega, hc⟩
    walk_at "lv"
    refine iteB (fun hg => ?_) fun hg => ?_
    · rw [hr2]
      walk_at "lv"
      obtain ⟨f1, f2⟩ := fm_nn (i := g) h1
      exact ⟨by omega, dv_ok h1 h2, q _ _ f1 f2 (bag2 _)⟩
    · refine hn2 _ (seq_k fun K3 hn3 hr3 hb3 hct3 he3 => ?_)
      walk_at "lv"
      refine hn3 _ (seq_k fun K4 hn4 hr4 hb4 hct4 he4 => ?_)
      walk_at "lv"
      refine iteB (fun hz => ?_) fun hz => ?_
      · rw [hr4]
        walk_at "lv"
        obtain ⟨f1, f2⟩ := fm_nn (i := n + 1) h1
        exact ⟨by omega, q _ _ f1 f2 (bag2 _)⟩
      · refine hn4 _ (seq_k fun K5 hn5 hr5 hb5 hct5 he5 => ?_)
        have hcl : 1 ≤ (cs.length : Int) := by
          cases cs with
          | nil => simp at hz
          | cons c cs => rw [List.length_cons]; omega
        walk_at "lv"
        obtain ⟨f1, f2⟩ := fm_nn (i := n + 1) hcl
        rw [List.length_map]
        obtain ⟨d, hd, hdm⟩ := at_in (l := cs.map D.int) f1 (by rw [List.length_map]; exact f2)
        obtain ⟨cell, hcell, rfl⟩ := List.mem_map.mp hdm
        refine ⟨by omega, _, hd, ?_⟩
        refine hn5 _ (seq_k fun K6 hn6 hr6 hb6 hct6 he6 => ?_)
        have hcb := hc cell hcell
        walk_at "lv"
        have bn : Builtin.Int.intBits (n + 1) ≤ 32 := bits31 (by omega) (by omega)
        refine ⟨by unfold CMulX; have := bits31 (i := 48271) (by decide) (by decide); omega, by unfold CMulX; have := bits31 (i := 69621) (by decide) (by decide); omega, by decide, ?_⟩
        obtain ⟨a1, a2⟩ := fm_nn (i := cell * 48271 + (n + 1) * 69621 + s) (j := 2147483629) (by decide)
        generalize (cell * 48271 + (n + 1) * 69621 + s).fmod 2147483629 = x5 at a1 a2 ⊢
        refine hn6 _ (seq_k fun K7 hn7 hr7 hb7 hct7 he7 => ?_)
        walk_at "lv"
        have b5 : Builtin.Int.intBits x5 ≤ 32 := bits31 (by omega) (by omega)
        refine ⟨by unfold CMulX; omega, by decide, ?_⟩
        obtain ⟨c1, c2⟩ := fm_nn (i := x5 * x5 + s) (j := 2147483647) (by decide)
        generalize (x5 * x5 + s).fmod 2147483647 = x6 at c1 c2 ⊢
        refine hn7 _ (seq_k fun K8 hn8 hr8 hb8 hct8 he8 => ?_)
        walk_at "lv"
        have b6 : Builtin.Int.intBits x6 ≤ 32 := bits31 (by omega) (by omega)
        refine ⟨by unfold CMulX; omega, by decide, ?_⟩
        generalize (x6 * x6 + (n + 1)).fmod 2147483629 = x7
        refine hn8 _ ?_
        walk_at "lv"
        obtain ⟨d1, d2⟩ := fm_nn (i := x7.fdiv 64) h1
        exact ⟨dv_ok (by decide) (by decide), by omega, q _ _ d1 d2 (bag2 _)⟩
theorem BagOk.mono {o : O} {m m' : Int} (h : BagOk o m) (k : m ≤ m') : BagOk o m' :=
  let ⟨g, s, n, cs, a, b, c, d, e, f⟩ := h
  ⟨g, s, n, cs, a, b, c, d, Int.le_trans e k, f⟩
/-- entries of a row: width w, in [0, B) -/
structure RowOk (w : Nat) (B : Int) (r : List Int) : Prop where
  len : r.length = w
  bd : ∀ x ∈ r, 0 ≤ x ∧ x < B
def S__law_bag : FSpec := fun args Q _ => ∃ ns : List Int, args = [.fz (.scr ns)] ∧ (∀ z ∈ ns, Builtin.Int.intBits z ≤ 1048576) ∧ ns.length ≤ 63 ∧ ∀ o, BagOk o 0 → Q (.ow o) args
theorem mS__law_bag : MonoF S__law_bag := ⟨fun h _ ⟨o, a, b, c, q⟩ => ⟨o, a, b, c, fun x y => h _ _ (q x y)⟩⟩
theorem lp__law_bag (K : Ks) (a b : Option Val) (hK : ∀ (g s : Int) (o : Option Val), 0 ≤ s → s < 2147483648 → K.nx [a, b, o, some (.fz (.int g)), some (.fz (.int s))]) : ∀ (cs : List Int) (g s : Int) (o : Option Val), 0 ≤ s → s < 2147483648 →
    loopW (.n 2) (wSeq (wSet 4 (wOp2 gMod (wBlt gInt1 (wCons (wOp2 gAdd (wOp2 gAdd (wOp2 gMulT (wVar 4) (wC (.int 31))) (wOp2 gMod (wBlt gInt1 (wCons (wVar 2) wNil)) (wC (.int 1000003)))) (wC (.int 11))) wNil)) (wC (.int 2147483647))))
      (wIf (wtAnd (wB (wOp2 gEq (wVar 3) (wC (.int 0)))) (wB (wOp2 gGe (wBlt gAbs (wCons (wVar 2) wNil)) (wOp2 gPow (wC (.int 10)) (wC (.int 18)))))) (wSet 3 (wBlt gAbs (wCons (wVar 2) wNil))) wSkip))
      yesK K (cs.map D.int) [a, b, o, some (.fz (.int g)), some (.fz (.int s))]
  | [], g, s, o, s0, s1 => ⟨True.intro, hK g s o s0 s1⟩
  | c :: cs, g, s, o, s0, s1 => by
    walk_at "lv"
    have p18 : CPow 10 18 := ⟨by decide, by decide, by decide⟩
    obtain ⟨f1, f2⟩ := fm_nn (i := s * 31 + c.fmod 1000003 + 11) (j := 2147483647) (by decide)
    generalize (s * 31 + c.fmod 1000003 + 11).fmod 2147483647 = s' at f1 f2 ⊢
    have bs : Builtin.Int.intBits s ≤ 32 := bits31 (by omega) (by omega)
    have b31 : Builtin.Int.intBits 31 ≤ 32 := bits31 (by decide) (by decide)
    refine ⟨by unfold CMulX; omega, by decide, by decide, iteB (fun _ => ⟨p18, iteB (fun _ => ?_) fun _ => ?_⟩) fun _ => ?_⟩
    · exact lp__law_bag K a b hK cs _ _ _ (by omega) (by omega)
    · exact lp__law_bag K a b hK cs _ _ _ (by omega) (by omega)
    · exact lp__law_bag K a b hK cs _ _ _ (by omega) (by omega)
theorem kp__law_bag : Keeps S__law_bag [] 1 5 w__law_bag where
  fit := fun args Q E ⟨o, a, _⟩ => a ▸ fit1
  run := fun args Q E ⟨ns, a, hz, hl, q⟩ => by
    subst a
    unfold w__law_bag
    refine seq_k fun K1 hn hr hb hct he => ?_
    unfold wLc
    walk_at "lv"
    simp only [wipeE, List.set_cons_zero, List.set_cons_succ]
    have hcs : ∃ cs : List Int, cutD (ns.map D.int) none (some 63) = cs.map D.int ∧ (∀ c ∈ cs, Builtin.Int.intBits c ≤ 1048576) ∧ cs.length ≤ 63 := by
      refine ⟨ns.take 63, ?_, fun c hc => hz c (List.mem_of_mem_take hc), by rw [List.length_take]; omega⟩
      rw [show (63 : Int) = ((63 : Nat) : Int) from rfl, cut_take, List.map_take]
    obtain ⟨cs, ec, hc, cl⟩ := hcs
    rw [ec]
    refine cw_map id True.intro _ (fun d hd => ?_) (by rw [List.length_map, sizeLine_eq]; omega) ?_
    · obtain ⟨c, hc, rfl⟩ := List.mem_map.mp hd
      exact ⟨_, rfl, rfl, fun G g => by walk_at "lv"; exact g⟩
    rw [List.map_id]
    refine hn _ (seq_k fun K2 hn2 hr2 hb2 hct2 he2 => ?_)
    walk_at "lv"
    refine hn2 _ (seq_k fun K3 hn3 hr3 hb3 hct3 he3 => ?_)
    walk_at "lv"
    refine hn3 _ (seq_k fun K4 hn4 hr4 hb4 hct4 he4 => ?_)
    have fin : ∀ (g s : Int) (o : Option Val) (cv : Val), cv = .fz (.lst (cs.map D.int)) → 0 ≤ s → s < 2147483648 → K4.nx [some (.fz (.scr ns)), some cv, o, some (.fz (.int g)), some (.fz (.int s))] := fun g s o cv ecv s0 s1 => by
      subst ecv
      refine hn4 _ ?_
      walk_at "lv"
      have sz := sizeLine_eq
      exact ⟨by omega, q _ ⟨g, s, 0, cs, rfl, s0, s1, Int.le_refl 0, Int.le_refl 0, hc⟩⟩
    walk_at "lv"
    exact lp__law_bag K4 _ _ (fun g s o s0 s1 => fin g s o _ rfl s0 s1) cs 0 7 none (by decide) (by decide)
def S__law_is_integer : FSpec := S_is_integer
theorem mS__law_is_integer : MonoF S__law_is_integer := mS_is_integer
theorem kp__law_is_integer : Keeps S__law_is_integer [] 1 1 w__law_is_integer := kp_is_integer
theorem row_ok {r : List Int} {w : Nat} (hl : r.length = w) (h1 : 1 ≤ w) (h8 : w ≤ 8) (h0 : ∀ x ∈ r, 0 ≤ x) {v : D} (hv : v = .non ∨ v = .int w) : isRowD (rowD r) v = true := by
  have e : (r.map D.int).all entOk = true := by
    rw [List.all_map, List.all_eq_true]
    intro x hx
    exact decide_eq_true (h0 x hx)
  simp only [isRowD]
  rw [List.length_map, hl, decide_eq_true h1, decide_eq_true h8, e]
  rcases hv with rfl | rfl
  · rfl
  · show (true && true && decide ((w : Int) = w) && true) = true
    rw [decide_eq_true rfl]; rfl
/-- the odd item of each way -/
def oddM (r : List Int) (p : Nat) (x : D) : D := .tup ((r.map D.int).take p ++ [x] ++ (r.map D.int).drop (p + 1))
def oddD (r : List Int) (p : Nat) : Nat → D
  | 0 => .lst (r.map D.int)
  | 1 => oddM r p (.int (-1))
  | 2 => oddM r p (.bl true)
  | 3 => oddM r p .non
  | 4 => oddM r p (.str "1")
  | 5 => oddM r p (.tup [.int 0])
  | 6 => .tup (r.map D.int ++ [.int 0])
  | 7 => .tup ((r.map D.int).take (r.length - 1))
  | 8 => .tup []
  | 9 => .tup (List.replicate 9 (.int 0))
  | 10 => .non
  | 11 => .str ""
  | _ => .int 5
def oddR (r : List Int) (p : Nat) : Nat → Rv
  | 0 => .ow (.lst (r.map D.int))
  | k => .fz (oddD r p k)
def S__law_odd : FSpec := fun args Q _ => ∃ (r : List Int) (p k : Nat), args = [.fz (rowD r), .fz (.int p), .fz (.int k)] ∧ p < r.length ∧ r.length ≤ 8 ∧ k < 13 ∧ Q (oddR r p k) args
theorem mS__law_odd : MonoF S__law_odd := ⟨fun h _ ⟨l, v, k, a, b, c, d, q⟩ => ⟨l, v, k, a, b, c, d, h _ _ q⟩⟩
theorem kp__law_odd : Keeps S__law_odd [] 3 4 w__law_odd where
  fit := fun args Q E ⟨l, v, k, a, _⟩ => a ▸ fit3
  run := fun args Q E ⟨r, p, k, a, hp, h8, hk, q⟩ => by
    subst a
    unfold w__law_odd
    have sz := sizeLine_eq
    have ep : (p : Int) + 1 = ((p + 1 : Nat) : Int) := by omega
    refine seq_k fun K1 hn hr hb hct he => ?_
    walk_at "lv"
    refine iteB (fun h => ?_) fun h => ?_
    · have h : k = 0 := by have h : (k : Int) = 0 := (by simpa using h); omega
      subst h
      rw [hr]
      walk_at "lv"
      exact q
    have h0 : k ≠ 0 := by simpa using h
    refine hn _ (seq_k fun K2 hn2 hr2 hb2 hct2 he2 => ?_)
    walk_at "lv"
    refine iteB (fun h => ?_) fun h => ?_
    · have h5 : k < 6 := by have := of_decide_eq_true h; omega
      have hx : ∃ x, L2.atI [D.tup [D.int (-1)], D.tup [D.bl true], D.tup [D.non], D.tup [D.str (Str.ofString "1")], D.tup [D.tup [D.int 0]]] ((k : Int) - 1) = some (.tup [x]) ∧ oddR r p k = .fz (oddM r p x) := by
        rcases (by omega : k = 1 ∨ k = 2 ∨ k = 3 ∨ k = 4 ∨ k = 5) with rfl | rfl | rfl | rfl | rfl <;> exact ⟨_, rfl, rfl⟩
      obtain ⟨x, hx, ex⟩ := hx
      rw [ex] at q
      refine ⟨by omega, by omega, by omega, by omega, by omega, by omega, by omega, ?_⟩
      rw [ep]
      simp_all! only [hx, cut_take, cut_drop]
      rw [hr2]
      walk_at "lv"
      refine ⟨by rw [List.length_take, List.length_map]; omega, by rw [List.length_append, List.length_take, List.length_drop, List.length_map, List.length_singleton]; omega, q⟩
    have h6 : 6 ≤ k := by have := of_decide_eq_false h; omega
    refine hn2 _ (seq_k fun K3 hn3 hr3 hb3 hct3 he3 => ?_)
    walk_at "lv"
    refine iteB (fun h => ?_) fun h => ?_
    · have h : k = 6 := by have h : (k : Int) = 6 := (by simpa using h); omega
      subst h
      rw [hr3]
      walk_at "lv"
      exact ⟨by omega, by rw [List.length_map]; omega, q⟩
    have n6 : k ≠ 6 := by have h : ¬ (k : Int) = 6 := (by simpa using h); omega
    refine hn3 _ (seq_k fun K4 hn4 hr4 hb4 hct4 he4 => ?_)
    walk_at "lv"
    refine iteB (fun h => ?_) fun h => ?_
    · have h : k = 7 := by have h : (k : Int) = 7 := (by simpa using h); omega
      subst h
      rw [hr4]
      walk_at "lv"
      rw [cut_last, List.length_map]
      exact q
    have n7 : k ≠ 7 := by have h : ¬ (k : Int) = 7 := (by simpa using h); omega
    refine hn4 _ (seq_k fun K5 hn5 hr5 hb5 hct5 he5 => ?_)
    walk_at "lv"
    refine iteB (fun h => ?_) fun h => ?_
    · have h : k = 8 := by have h : (k : Int) = 8 := (by simpa using h); omega
      subst h
      rw [hr5]
      walk_at "lv"
      exact ⟨by omega, q⟩
    have n8 : k ≠ 8 := by have h : ¬ (k : Int) = 8 := (by simpa using h); omega
    refine hn5 _ (seq_k fun K6 hn6 hr6 hb6 hct6 he6 => ?_)
    walk_at "lv"
    refine iteB (fun h => ?_) fun h => ?_
    · have h : k = 9 := by have h : (k : Int) = 9 := (by simpa using h); omega
      subst h
      rw [hr6]
      walk_at "lv"
      exact ⟨by omega, q⟩
    have n9 : k ≠ 9 := by have h : ¬ (k : Int) = 9 := (by simpa using h); omega
    refine hn6 _ (seq_k fun K7 hn7 hr7 hb7 hct7 he7 => ?_)
    walk_at "lv"
    refine iteB (fun h => ?_) fun h => ?_
    · have h : k = 10 := by have h : (k : Int) = 10 := (by simpa using h); omega
      subst h
      rw [hr7]
      walk_at "lv"
      exact q
    have n10 : k ≠ 10 := by have h : ¬ (k : Int) = 10 := (by simpa using h); omega
    refine hn7 _ (seq_k fun K8 hn8 hr8 hb8 hct8 he8 => ?_)
    walk_at "lv"
    refine iteB (fun h => ?_) fun h => ?_
    · have h : k = 11 := by have h : (k : Int) = 11 := (by simpa using h); omega
      subst h
      rw [hr8]
      walk_at "lv"
      exact q
    have n11 : k ≠ 11 := by have h : ¬ (k : Int) = 11 := (by simpa using h); omega
    refine hn8 _ ?_
    have e12 : k = 12 := by omega
    subst e12
    walk_at "lv"
    exact q
theorem tidyL_ints : ∀ {r : List Int}, (∀ x ∈ r, 0 ≤ x ∧ x < 10 ^ 31) → tidyL (r.map D.int) = true
  | [], _ => rfl
  | x :: r, h => by
    obtain ⟨a, b⟩ := h x List.mem_cons_self
    show (decide (x.natAbs < 10 ^ 40) && tidyL (r.map D.int)) = true
    rw [tidyL_ints fun y hy => h y (List.mem_cons_of_mem _ hy), decide_eq_true (by omega)]; rfl
theorem tidyL_append : ∀ {a b : List D}, tidyL a = true → tidyL b = true → tidyL (a ++ b) = true
  | [], _, _, h => h
  | x :: a, b, h, h' => by
    have h := Bool.and_eq_true_iff.mp h
    show (x.tidy && tidyL (a ++ b)) = true
    rw [h.1, tidyL_append h.2 h']; rfl
theorem nodesL_append : ∀ a b : List D, nodesL (a ++ b) = nodesL a + nodesL b
  | [], b => by simp [nodesL]
  | x :: a, b => by
    show x.nodes + nodesL (a ++ b) = x.nodes + nodesL a + nodesL b
    rw [nodesL_append a b]; omega
theorem nodesL_ints : ∀ r : List Int, nodesL (r.map D.int) = r.length
  | [] => rfl
  | x :: r => by
    show 1 + nodesL (r.map D.int) = r.length + 1
    rw [nodesL_ints r]; omega
/-- is the odd item of way k a row of some width -/
def loneK (w k : Nat) : Bool := !(k == 6 || k == 7) || ((k == 6 && w == 8) || (k == 7 && w == 1))
theorem oddM_bad {r : List Int} {p : Nat} {x v : D} (h : entOk x = false) : isRowD (oddM r p x) v = false := by
  unfold oddM
  simp only [isRowD]
  rw [List.all_append, List.all_append]
  have : [x].all entOk = false := by simp [h]
  rw [this]
  simp
theorem odd_row {r : List Int} {w p k : Nat} (hr : RowOk w (10 ^ 31) r) (w1 : 1 ≤ w) (w8 : w ≤ 8) (hp : p < w) (hk : k < 13) : isRowD (oddD r p k) (.int w) = false ∧ isRowD (oddD r p k) .non = !loneK w k := by
  obtain ⟨hl, hb⟩ := hr
  have ent : ∀ s : List Int, (∀ x ∈ s, 0 ≤ x) → (s.map D.int).all entOk = true := fun s hs => by
    rw [List.all_map, List.all_eq_true]
    intro x hx
    exact decide_eq_true (hs x hx)
  have e0 := ent r fun x hx => (hb x hx).1
  rcases (by omega : k = 0 ∨ k = 1 ∨ k = 2 ∨ k = 3 ∨ k = 4 ∨ k = 5 ∨ k = 6 ∨ k = 7 ∨ k = 8 ∨ k = 9 ∨ k = 10 ∨ k = 11 ∨ k = 12) with rfl | rfl | rfl | rfl | rfl | rfl | rfl | rfl | rfl | rfl | rfl | rfl | rfl
  · exact ⟨rfl, rfl⟩
  · exact ⟨oddM_bad rfl, oddM_bad rfl⟩
  · exact ⟨oddM_bad rfl, oddM_bad rfl⟩
  · exact ⟨oddM_bad rfl, oddM_bad rfl⟩
  · exact ⟨oddM_bad rfl, oddM_bad rfl⟩
  · exact ⟨oddM_bad rfl, oddM_bad rfl⟩
  · constructor
    · simp only [oddD, isRowD, wOk]
      rw [List.length_append, List.length_map, hl, decide_eq_false (p := (((w + [D.int 0].length : Nat) : Int) = w)) (by simp; omega)]
      simp
    · simp only [oddD, isRowD, wOk, loneK]
      rw [List.length_append, List.length_map, hl, List.all_append, e0]
      rcases (by omega : w = 1 ∨ w = 2 ∨ w = 3 ∨ w = 4 ∨ w = 5 ∨ w = 6 ∨ w = 7 ∨ w = 8) with rfl | rfl | rfl | rfl | rfl | rfl | rfl | rfl <;> rfl
  · have et : (r.map D.int).take (r.length - 1) = (r.take (r.length - 1)).map D.int := by rw [List.map_take]
    have e1 := ent (r.take (r.length - 1)) fun x hx => (hb x (List.mem_of_mem_take hx)).1
    have l1 : ((r.take (r.length - 1)).map D.int).length = w - 1 := by rw [List.length_map, List.length_take, hl]; omega
    constructor
    · simp only [oddD, isRowD, wOk]
      rw [et, l1, decide_eq_false (p := (((w - 1 : Nat) : Int) = w)) (by omega)]
      simp
    · simp only [oddD, isRowD, wOk, loneK]
      rw [et, l1, e1]
      rcases (by omega : w = 1 ∨ w = 2 ∨ w = 3 ∨ w = 4 ∨ w = 5 ∨ w = 6 ∨ w = 7 ∨ w = 8) with rfl | rfl | rfl | rfl | rfl | rfl | rfl | rfl <;> rfl
  · exact ⟨rfl, rfl⟩
  · exact ⟨rfl, rfl⟩
  · exact ⟨rfl, rfl⟩
  · exact ⟨rfl, rfl⟩
  · exact ⟨rfl, rfl⟩
/-- a lone odd item is no row; another one is a row of another width -/
theorem odd_tup {r : List Int} {w p k : Nat} (hr : RowOk w (10 ^ 31) r) (w1 : 1 ≤ w) (hk : loneK w k = false) : ∃ ds, oddD r p k = .tup ds ∧ ds.length ≠ w := by
  have hl := hr.len
  have h67 : k = 6 ∨ k = 7 := by
    by_cases h6 : k = 6
    · exact .inl h6
    · by_cases h7 : k = 7
      · exact .inr h7
      · exfalso
        unfold loneK at hk
        simp [h6, h7] at hk
  rcases h67 with rfl | rfl
  · exact ⟨_, rfl, by rw [List.length_append, List.length_map]; simp; omega⟩
  · exact ⟨_, rfl, by rw [List.length_take, List.length_map]; omega⟩
theorem depth_ints : ∀ ns : List Int, PyData.depthAll (ns.map PyData.int) = 0
  | [] => rfl
  | n :: ns => by show max 0 (PyData.depthAll (ns.map PyData.int)) = 0; rw [depth_ints ns]; rfl
mutual
theorem depth_nodes : ∀ d : D, d.pd.depth ≤ d.nodes
  | .non => Nat.zero_le _
  | .bl _ => Nat.zero_le _
  | .int _ => Nat.zero_le _
  | .str _ => Nat.zero_le _
  | .tup ds => Nat.succ_le_succ (depthL_nodes ds)
  | .lst ds => Nat.succ_le_succ (depthL_nodes ds)
  | .scr ns => by show PyData.depthAll (ns.map PyData.int) + 1 ≤ 1; rw [depth_ints]; exact Nat.le_refl _
  | .dct _ _ => Nat.le_refl _
  | .ins _ _ _ => Nat.le_refl _
  | .cls _ => Nat.le_refl _
  | .exn _ _ _ => Nat.le_refl _
  | .ptr _ => Nat.le_refl _
  | .tpn _ => Nat.le_refl _
theorem depthL_nodes : ∀ ds : List D, PyData.depthAll (pdL ds) ≤ nodesL ds
  | [] => Nat.zero_le _
  | d :: ds => by
    have a := depth_nodes d
    have b := depthL_nodes ds
    show max d.pd.depth (PyData.depthAll (pdL ds)) ≤ d.nodes + nodesL ds
    omega
end
theorem oddM_tidy {r : List Int} {w p : Nat} {x : D} (hr : RowOk w (10 ^ 31) r) (w8 : w ≤ 8) (hx : x.tidy = true) (hn : x.nodes ≤ 5) : (oddM r p x).tidy = true ∧ (oddM r p x).nodes ≤ 30 := by
  obtain ⟨hl, hb⟩ := hr
  have t1 : tidyL ((r.map D.int).take p) = true := by rw [← List.map_take]; exact tidyL_ints fun y hy => hb y (List.mem_of_mem_take hy)
  have t2 : tidyL ((r.map D.int).drop (p + 1)) = true := by rw [← List.map_drop]; exact tidyL_ints fun y hy => hb y (List.mem_of_mem_drop hy)
  constructor
  · refine tidyL_append (tidyL_append t1 ?_) t2
    show (x.tidy && true) = true
    rw [hx]; rfl
  · show nodesL ((r.map D.int).take p ++ [x] ++ (r.map D.int).drop (p + 1)) + 1 ≤ 30
    rw [nodesL_append, nodesL_append, ← List.map_take, ← List.map_drop, nodesL_ints, nodesL_ints, List.length_take, List.length_drop]
    show min p r.length + (x.nodes + 0) + (r.length - (p + 1)) + 1 ≤ 30
    omega
theorem odd_tidy {r : List Int} {w p k : Nat} (hr : RowOk w (10 ^ 31) r) (w8 : w ≤ 8) (hk : k < 13) : (oddD r p k).tidy = true ∧ (oddD r p k).nodes ≤ 30 := by
  have hl := hr.len
  have t0 := tidyL_ints hr.bd
  rcases (by omega : k = 0 ∨ k = 1 ∨ k = 2 ∨ k = 3 ∨ k = 4 ∨ k = 5 ∨ k = 6 ∨ k = 7 ∨ k = 8 ∨ k = 9 ∨ k = 10 ∨ k = 11 ∨ k = 12) with rfl | rfl | rfl | rfl | rfl | rfl | rfl | rfl | rfl | rfl | rfl | rfl | rfl
  · exact ⟨t0, by show nodesL (r.map D.int) + 1 ≤ 30; rw [nodesL_ints]; omega⟩
  · exact oddM_tidy hr w8 (by decide) (by decide)
  · exact oddM_tidy hr w8 rfl (by decide)
  · exact oddM_tidy hr w8 rfl (by decide)
  · exact oddM_tidy hr w8 (by decide +kernel) (Nat.le_of_ble_eq_true rfl)
  · exact oddM_tidy hr w8 (by decide) (by decide)
  · exact ⟨tidyL_append t0 (by decide), by show nodesL (r.map D.int ++ [.int 0]) + 1 ≤ 30; rw [nodesL_append, nodesL_ints]; show r.length + 1 + 1 ≤ 30; omega⟩
  · refine ⟨?_, ?_⟩
    · show tidyL ((r.map D.int).take (r.length - 1)) = true
      rw [← List.map_take]; exact tidyL_ints fun y hy => hr.bd y (List.mem_of_mem_take hy)
    · show nodesL ((r.map D.int).take (r.length - 1)) + 1 ≤ 30
      rw [← List.map_take, nodesL_ints, List.length_take]; omega
  · exact ⟨rfl, show (D.tup []).nodes ≤ 30 by decide⟩
  · exact ⟨show (D.tup (List.replicate 9 (.int 0))).tidy = true by decide, show (D.tup (List.replicate 9 (.int 0))).nodes ≤ 30 by decide⟩
  · exact ⟨rfl, show D.non.nodes ≤ 30 by decide⟩
  · exact ⟨show (D.str "").tidy = true by decide +kernel, show 1 ≤ 30 by decide⟩
  · exact ⟨show (D.int 5).tidy = true by decide, show 1 ≤ 30 by decide⟩
theorem gRepr_1 {d : D} {Q : Rv → Prop} : gRepr [d] Q = (d.Shows ∧ Q (.fz (.str d.pd.shown))) := propext ⟨fun ⟨d', e, s, q⟩ => by
  injection e with e _; subst e; exact ⟨s, q⟩, fun ⟨s, q⟩ => ⟨d, rfl, s, q⟩⟩
theorem shows_t {d : D} (h : d.tidy = true ∧ d.nodes ≤ 30) : d.Shows := shows_of h.1 (Nat.le_trans (depth_nodes _) (by omega)) (by omega)
theorem firstBad_rows {w : Nat} (h1 : 1 ≤ w) (h8 : w ≤ 8) : ∀ {rows : List (List Int)} {v : D}, (∀ r ∈ rows, r.length = w ∧ ∀ x ∈ r, 0 ≤ x) → (v = .non ∨ v = .int w) → ∀ rest : List D, firstBad v (rows.map rowD ++ rest) = firstBad (if rows = [] then v else .int w) rest
  | [], v, _, _, rest => by rw [if_pos rfl]; rfl
  | r :: rows, v, h, hv, rest => by
    obtain ⟨a, b⟩ := h r List.mem_cons_self
    rw [List.map_cons, List.cons_append, firstBad, if_pos (row_ok a h1 h8 b hv)]
    show firstBad (.int ((r.map D.int).length : Nat)) (rows.map rowD ++ rest) = _
    rw [List.length_map, a, firstBad_rows h1 h8 (fun x hx => h x (List.mem_cons_of_mem _ hx)) (.inr rfl) rest, if_neg (by simp : ¬ r :: rows = [])]
    by_cases e : rows = []
    · rw [if_pos e]
    · rw [if_neg e]
end LV
set_option maxHeartbeats 1000000
namespace LV
open PySem PySem.Spec L2
theorem BagOk.isL {o : O} {m : Int} (h : BagOk o m) : ∃ ds, o = .lst ds := by
  obtain ⟨g, s, n, cs, e, _⟩ := h
  exact ⟨_, e⟩
theorem bag_nn {o : O} {m : Int} (h : BagOk o m) : ∀ xs, o ≠ .nst xs := by
  obtain ⟨ds, rfl⟩ := h.isL
  intro xs z
  cases z
theorem valOf_lst {env : En} {i : Nat} {o : O} (h : env[i]? = some (some (.ow o))) (hl : ∃ ds, o = .lst ds) : valOf env (.sl i) = some (.ow o) := by
  obtain ⟨ds, rfl⟩ := hl
  simp only [valOf, h]
structure EvB (rest : List (Option Val)) (w : EW) (P : D → Prop) (c : Nat) : Prop where
  go : ∀ {o : O} {m : Nat} {Q : Rv → En → Prop} {E : XW}, BagOk o (m : Int) → m + c ≤ 100000 → (∀ d o', P d → BagOk o' ((m + c : Nat) : Int) → Q (.fz d) (some (.ow o') :: rest)) → w (some (.ow o) :: rest) Q E
structure EvBO (rest : List (Option Val)) (w : EW) (P : O → Prop) (c : Nat) : Prop where
  go : ∀ {o : O} {m : Nat} {Q : Rv → En → Prop} {E : XW}, BagOk o (m : Int) → m + c ≤ 100000 → (∀ d o', P d → BagOk o' ((m + c : Nat) : Int) → Q (.ow d) (some (.ow o') :: rest)) → w (some (.ow o) :: rest) Q E
structure EvBL (rest : List (Option Val)) (wl : AW) (P : List D → Prop) (c : Nat) : Prop where
  go : ∀ {o : O} {m : Nat} {Q : List Rv → En → Prop} {E : XW}, BagOk o (m : Int) → m + c ≤ 100000 → (∀ ds o', P ds → BagOk o' ((m + c : Nat) : Int) → Q (ds.map .fz) (some (.ow o') :: rest)) → wl (some (.ow o) :: rest) Q E
section
variable {rest : List (Option Val)} {w wa wb : EW} {wl : AW} {P P1 P2 : D → Prop} {PL : List D → Prop} {c c1 c2 n : Nat} {g : G2}
theorem b_w (h : EvB rest w P1 c) (k : ∀ d, P1 d → P d) : EvB rest w P c := ⟨fun bg hm q => h.go bg hm fun d o' p b => q d o' (k d p) b⟩
theorem b_pure {d : D} (h : ∀ o, EvR (some (.ow o) :: rest) w (.fz d) (some (.ow o) :: rest)) (p : P d) : EvB rest w P 0 := ⟨fun {o m Q E} bg hm q => (h o).go (q d o p bg)⟩
theorem b_c {d : D} (p : P d) : EvB rest (wC d) P 0 := b_pure (fun _ => ev_c) p
theorem b_var (i : Nat) {d : D} (h : rest[i]? = some (some (.fz d))) (p : P d) : EvB rest (wVar (i + 1)) P 0 := b_pure (fun _ => ev_var h) p
theorem b_op (ha : EvB rest wa P1 c1) (hb : EvB rest wb P2 c2) (hg : ∀ a b, P1 a → P2 b → ∀ Q' : Rv → Prop, (∀ d, P d → Q' (.fz d)) → g a b Q') : EvB rest (wOp2 g wa wb) P (c1 + c2) := ⟨fun {o m Q E} bg hm q => by
  refine ha.go (m := m) bg (by omega) fun a o1 pa b1 => ?_
  refine hb.go (m := m + c1) b1 (by omega) fun b o2 pb b2 => ?_
  exact ⟨a, b, rfl, rfl, hg a b pa pb _ fun d pd => q d o2 pd (by rw [← Nat.add_assoc]; exact b2)⟩⟩
theorem bl_nil : EvBL rest wNil (fun ds => ds = []) 0 := ⟨fun {o m Q E} bg hm q => q [] o rfl bg⟩
theorem bl_cons (ha : EvB rest w P c1) (hl : EvBL rest wl PL c2) : EvBL rest (wCons w wl) (fun ds => ∃ d t, ds = d :: t ∧ P d ∧ PL t) (c1 + c2) := ⟨fun {o m Q E} bg hm q => by
  refine ha.go (m := m) bg (by omega) fun a o1 pa b1 => ?_
  refine hl.go (m := m + c1) b1 (by omega) fun t o2 pt b2 => ?_
  exact q (a :: t) o2 ⟨a, t, rfl, pa, pt⟩ (by rw [← Nat.add_assoc]; exact b2)⟩
theorem bl_w {PL' : List D → Prop} (h : EvBL rest wl PL c) (k : ∀ ds, PL ds → PL' ds) : EvBL rest wl PL' c := ⟨fun bg hm q => h.go bg hm fun d o' p b => q d o' (k d p) b⟩
theorem bo_lst (h : EvBL rest wl PL c) (hz : ∀ ds, PL ds → ds.length ≤ 1000) : EvBO rest (wLst wl) (fun d => ∃ ds, d = .lst ds ∧ PL ds) c := ⟨fun {o m Q E} bg hm q => by
  refine h.go bg hm fun ds o' p b => ?_
  have sz := sizeLine_eq
  exact ⟨ds, _, frzL_fz' ds, by have := hz ds p; omega, q _ o' ⟨ds, rfl, p⟩ b⟩⟩
theorem b_draw (n : Int) (h1 : 1 ≤ n) (h2 : n < 10 ^ 40) {wn : EW} (hn : ∀ o, Ev (some (.ow o) :: rest) wn (.int n) (some (.ow o) :: rest)) : EvB rest (wCall S__law_take (wCons (wVar 0) (wCons wn wNil))) (fun d => ∃ i : Int, d = .int i ∧ 0 ≤ i ∧ i < n) 1 := ⟨fun {o m Q E} bg hm q => by
  obtain ⟨dsL, rfl⟩ := bg.isL
  simp only [wCall, wCons, wFz, wVar, List.getElem?_cons_zero]
  refine (hn (.lst dsL)).go (Q := fun r e => ∃ args, valL e [.sl 0, r] = some args ∧ (slotsOf [.sl 0, r]).Nodup ∧ S__law_take args (fun r' args' => backOk args args' = true ∧ (∀ i, r' ≠ .sl i) ∧ Q r' (putL e [.sl 0, r] args')) fun x args' => backOk args args' = true ∧ E x (putL e [.sl 0, r] args')) ?_
  simp only [valL, valOf, List.getElem?_cons_zero, slotsOf]
  exact ⟨_, rfl, List.nodup_cons.mpr ⟨fun z => (nomatch z), .nil⟩, .lst dsL, n, m, rfl, bg, h1, h2, by omega, fun d o' a b c => ⟨rfl, fun _ z => (nomatch z), q _ o' ⟨d, rfl, a, b⟩ c⟩⟩⟩
abbrev bDr (rest : List (Option Val)) (n : Int) (h1 : 1 ≤ n := by decide) (h2 : n < 10 ^ 40 := by decide) : EvB rest (wCall S__law_take (wCons (wVar 0) (wCons (wC (.int n)) wNil))) (fun d => ∃ i : Int, d = .int i ∧ 0 ≤ i ∧ i < n) 1 := b_draw n h1 h2 fun _ => cx
theorem backOk_bag (o o' : O) (ds : List D) : backOk (.ow o :: ds.map .fz) (.ow o' :: ds.map .fz) = true := backOk_fz ds
/-- a call that takes the bag -/
theorem b_call {S : FSpec} {ds : List D} (mS : MonoF S) (hl : ∀ o, EvL (some (.ow o) :: rest) wl ds (some (.ow o) :: rest)) (hS : ∀ (o : O) (m : Nat) (Q' : Rv → List Val → Prop) (E' : Xn → List Val → Prop), BagOk o (m : Int) → m + c ≤ 100000 → (∀ d o', P d → BagOk o' ((m + c : Nat) : Int) → Q' (.fz d) (.ow o' :: ds.map .fz)) → S (.ow o :: ds.map .fz) Q' E') : EvB rest (wCall S (wCons (wVar 0) wl)) P c := ⟨fun {o m Q E} bg hm q => by
  simp only [wCall, wCons, wFz, wVar, List.getElem?_cons_zero]
  refine (hl o).go (Q := fun rs e => ∃ args, valL e (.sl 0 :: rs) = some args ∧ (slotsOf (.sl 0 :: rs)).Nodup ∧ S args (fun r' args' => backOk args args' = true ∧ (∀ i, r' ≠ .sl i) ∧ Q r' (putL e (.sl 0 :: rs) args')) fun x args' => backOk args args' = true ∧ E x (putL e (.sl 0 :: rs) args')) ?_
  refine ⟨.ow o :: ds.map .fz, ?_, ?_, hS o m _ _ bg hm fun d o' p b => ⟨backOk_bag o o' ds, fun _ z => (nomatch z), ?_⟩⟩
  · show (match valOf (some (.ow o) :: rest) (.sl 0), valL (some (.ow o) :: rest) (ds.map Rv.fz) with | some a, some as => some (a :: as) | _, _ => none) = _
    rw [valL_fz ds, valOf_lst rfl bg.isL]
  · show (0 :: slotsOf (ds.map Rv.fz)).Nodup
    rw [slots_fz]
    exact List.nodup_cons.mpr ⟨fun z => (nomatch z), .nil⟩
  · have e : putL (some (.ow o) :: rest) (Rv.sl 0 :: ds.map Rv.fz) (.ow o' :: ds.map .fz) = some (.ow o') :: rest := by
      show (putL (some (.ow o) :: rest) (ds.map Rv.fz) (ds.map .fz)).set 0 (some (.ow o')) = _
      rw [putL_fz]; rfl
    rw [e]
    exact q d o' p b⟩
/-- a comprehension over a range whose items draw -/
theorem comp_b {i : Nat} {restf : Option Val → List (Option Val)} (h1 : ∀ v v', (restf v).set i v' = restf v') (hw : ∀ x : Int, EvB (restf (some (.fz (.int x)))) w P c) {Q : List D → En → Prop} : ∀ (k : Nat) (lo : Int) (acc : List D) (o : O) (m : Nat), (∀ d ∈ acc, P d) → BagOk o (m : Int) → m + c * k ≤ 100000 → acc.length + k ≤ 1000 →
    (∀ ds o', ds.length = acc.length + k → (∀ d ∈ ds, P d) → BagOk o' ((m + c * k : Nat) : Int) → Q ds (some (.ow o') :: restf none)) → compW (.n (i + 1)) uYes w [i + 1] yesK Q (rngD lo k) acc (some (.ow o) :: restf none)
  | 0, lo, acc, o, m, ha, bg, hm, hl, q => ⟨True.intro, q acc o rfl ha bg⟩
  | k + 1, lo, acc, o, m, ha, bg, hm, hl, q => by
    have sz := sizeLine_eq
    rw [Nat.mul_succ] at hm q
    refine ⟨True.intro, _, rfl, ?_⟩
    rw [List.set_cons_succ, h1]
    refine uYes_i' ?_
    rw [if_pos rfl]
    refine (hw lo).go (m := m) bg (by omega) fun d o' p b => ⟨d, _, rfl, by omega, ?_⟩
    simp only [wipeE, List.set_cons_succ]
    rw [h1]
    refine comp_b h1 hw k (lo + 1) (acc ++ [d]) o' (m + c) (fun x hx => ?_) b (by omega) (by rw [List.length_append, List.length_singleton]; omega) fun ds o2 a e f => ?_
    · rcases List.mem_append.mp hx with z | z
      · exact ha x z
      · rw [List.mem_singleton.mp z]; exact p
    · rw [List.length_append, List.length_singleton] at a
      exact q ds o2 (by omega) e (by rw [show m + (c * k + c) = m + c + c * k by omega]; exact f)
theorem bo_lc {i : Nat} {restf : Option Val → List (Option Val)} {k : Nat} (hr : rest = restf none) (h1 : ∀ v v', (restf v).set i v' = restf v') (hl : ∀ o, EvL (some (.ow o) :: rest) wl [.int (k : Int)] (some (.ow o) :: rest)) (hk : k ≤ 1000) (hw : ∀ x : Int, EvB (restf (some (.fz (.int x)))) w P c) : EvBO rest (wLc (.n (i + 1)) (wRng1 wl) uYes w [i + 1]) (fun d => ∃ ds, d = .lst ds ∧ ds.length = k ∧ ∀ x ∈ ds, P x) (c * k) := ⟨fun {o m Q E} bg hm q => by
  subst hr
  refine (hl o).go ⟨(k : Int), rfl, by unfold okR; omega, ?_⟩
  rw [Int.toNat_natCast]
  have e : wipeE (some (.ow o) :: restf none) [i + 1] = some (.ow o) :: restf none := by
    simp only [wipeE, List.set_cons_succ]
    rw [h1]
  show compW (.n (i + 1)) uYes w [i + 1] yesK (fun acc e' => Q (Rv.ow (O.lst acc)) e') (rngD 0 k) [] (wipeE (some (.ow o) :: restf none) [i + 1])
  rw [e]
  exact comp_b h1 hw k 0 [] o m (fun _ z => nomatch z) bg hm (by rw [List.length_nil]; omega) fun ds o' a p b => q _ o' ⟨ds, rfl, by rw [List.length_nil] at a; omega, p⟩ b⟩
theorem b_tuple (h : EvBO rest w (fun d => ∃ ds, d = .lst ds ∧ PL ds) c) : EvB rest (wBlt gTuple (wCons w wNil)) (fun d => ∃ ds, d = .tup ds ∧ PL ds) c := ⟨fun {o m Q E} bg hm q => by
  refine h.go bg hm fun a o' ⟨ds, e, p⟩ b => ?_
  subst e
  exact ⟨[.lst ds], rfl, q _ o' ⟨ds, rfl, p⟩ b⟩⟩
variable {K : Ks} {pn : List Nat} {i : Nat}
theorem b_set (h : EvB rest w P c) {o : O} {m : Nat} (bg : BagOk o (m : Int)) (hm : m + c ≤ 100000) (q : ∀ d o', P d → BagOk o' ((m + c : Nat) : Int) → K.nx (some (.ow o') :: rest.set i (some (.fz d)))) : wSet (i + 1) w K (some (.ow o) :: rest) := h.go bg hm fun d o' p b => q d o' p b
theorem b_ret (h : EvB rest w P c) {o : O} {m : Nat} (bg : BagOk o (m : Int)) (hm : m + c ≤ 100000) (q : ∀ d o', P d → BagOk o' ((m + c : Nat) : Int) → K.rt (.fz d) (some (.ow o') :: rest)) : wRet pn w K (some (.ow o) :: rest) := h.go bg hm fun d o' p b => q d o' p b
end
variable {env e1 e2 : En} {w wa wb : EW} {wl : AW} {ds : List D} {S : FSpec} {o : O} {i : Nat} {Q : Rv → En → Prop} {E : XW}
section
variable {env e1 e2 : En} {w wa wb : EW} {wl : AW} {ds : List D} {S : FSpec} {o : O} {i : Nat} {Q : Rv → En → Prop} {E : XW}
theorem call_bag {S : FSpec} (mS : MonoF S) (nn : ∀ xs, o ≠ .nst xs) (h : env[i]? = some (some (.ow o))) (hl : EvL env wl ds e1) (h1 : e1[i]? = some (some (.ow o)))
    (q : S (.ow o :: ds.map .fz) (fun r as => ∃ o', as = .ow o' :: ds.map .fz ∧ (∀ i, r ≠ .sl i) ∧ Q r (e1.set i (some (.ow o')))) fun _ _ => False) : wCall S (wCons (wVar i) wl) env Q E := by
  simp only [wCall, wCons, wFz, wVar, h]
  refine hl.go (Q := fun rs e => ∃ args, valL e (.sl i :: rs) = some args ∧ (slotsOf (.sl i :: rs)).Nodup ∧ S args (fun r' args' => backOk args args' = true ∧ (∀ i, r' ≠ .sl i) ∧ Q r' (putL e (.sl i :: rs) args')) fun x args' => backOk args args' = true ∧ E x (putL e (.sl i :: rs) args')) ?_
  refine ⟨.ow o :: ds.map .fz, ?_, ?_, mS.mo (fun r as ⟨o', e, n, z⟩ => ?_) (fun x as z => z.elim) q⟩
  · show (match valOf e1 (.sl i), valL e1 (ds.map Rv.fz) with | some a, some as => some (a :: as) | _, _ => none) = _
    have e : valOf e1 (.sl i) = some (.ow o) := by cases o <;> first | exact absurd rfl (nn _) | simp only [valOf, h1]
    rw [valL_fz ds, e]
  · show (i :: slotsOf (ds.map Rv.fz)).Nodup
    rw [slots_fz]
    exact List.nodup_cons.mpr ⟨fun z => (nomatch z), .nil⟩
  · subst e
    refine ⟨backOk_fz ds, n, ?_⟩
    show Q r ((putL e1 (ds.map Rv.fz) (ds.map Val.fz)).set i (some (.ow o')))
    rw [putL_fz]
    exact z
end
end LV
set_option maxHeartbeats 400000
namespace LV
open PySem PySem.Spec L2
open PySem.W (dataLt dataLe AllAlike Sortable alike alikeAll dataLt_cons dataLt_tuple dataLt_ii keyToksAll)
open PyProof.Rows (itemOrd lex_irrefl)
def unI : D → Int
  | .int i => i
  | _ => 0
def unR : D → List Int
  | .tup ds => ds.map unI
  | _ => []
theorem unR_row (r : List Int) : unR (rowD r) = r := by
  show (r.map D.int).map unI = r
  rw [List.map_map]
  simp [Function.comp_def, unI]
theorem frzL_fz {e : En} : ∀ ds : List D, frzL e (ds.map Rv.fz) = some (ds, e)
  | [] => rfl
  | d :: ds => by
    show (match frzL e (ds.map Rv.fz) with | none => none | some (ds, e2) => some (d :: ds, e2)) = some (d :: ds, e)
    rw [frzL_fz ds]
def S__law_entry : FSpec := fun args Q _ => ∃ (o : O) (m : Nat), args = [.ow o] ∧ BagOk o (m : Int) ∧ m + 2 ≤ 100000 ∧ ∀ (x : Int) o', 0 ≤ x → x < 10 ^ 30 → BagOk o' ((m + 2 : Nat) : Int) → Q (.fz (.int x)) [.ow o']
theorem mS__law_entry : MonoF S__law_entry := ⟨fun h _ ⟨o, m, a, b, c, q⟩ => ⟨o, m, a, b, c, fun x y h1 h2 h3 => h _ _ (q x y h1 h2 h3)⟩⟩
theorem kp__law_entry : Keeps S__law_entry [0] 1 2 (w__law_entry S__law_take) where
  fit := fun args Q E ⟨o, m, a, _⟩ => a ▸ fitO1
  run := fun args Q E ⟨o, m, a, bg, hm, q⟩ => by
    subst a
    unfold w__law_entry
    have p29 : CPow 10 29 := ⟨by decide, by decide, by decide⟩
    have e29 : (10 : Int) ^ (29 : Int).toNat = 100000000000000000000000000000 := by decide
    change wSeq _ _ _ [some (.ow o), none]
    refine seq_k fun K1 hn1 hr1 _ _ _ => b_set (i := 0) (rest := [none]) (bDr _ 10) bg (by omega) fun d o1 ⟨i, hd, i0, i1⟩ bg1 => hn1 _ ?_
    subst hd
    change wSeq _ _ _ [some (.ow o1), some (.fz (.int i))]
    by_cases h8 : i < 8
    · refine sk_t (evt_B (ev_lti (vx 1 rfl) cx (decide_eq_true h8))) fun K' hr _ => run_ret (d := .int (i / 2)) (ev_op (vx 1 rfl) cx fun Q' q => ?_) ?_
      · rw [gDiv_ii]
        exact ⟨dv_ok (by decide) (by decide), by rw [show i.fdiv 2 = i / 2 from Int.fdiv_eq_ediv_of_nonneg i (by decide)]; exact q⟩
      · rw [hr]
        exact ⟨_, rfl, q _ _ (by omega) (by omega) (bg1.mono (by omega))⟩
    · refine sk_f (evt_B (ev_lti (vx 1 rfl) cx (decide_eq_false h8))) ?_
      by_cases h9 : i = 8
      · refine sk_t (evt_B (ev_eqi' (vx 1 rfl) cx (decide_eq_true h9))) fun K' hr _ => b_ret (bDr [some (.fz (.int i))] 40) bg1 (by omega) fun d o2 ⟨x, hd, x0, x1⟩ bg2 => ?_
        subst hd
        rw [hr]
        exact ⟨_, rfl, q _ _ x0 (by omega) (bg2.mono (by omega))⟩
      · refine sk_f (evt_B (ev_eqi' (vx 1 rfl) cx (decide_eq_false h9))) ?_
        have pw : ∀ {env : En}, Ev env (wOp2 gPow (wC (.int 10)) (wC (.int 29))) (.int 100000000000000000000000000000) env := fun {env} => (ev_op (r := .fz (.int 100000000000000000000000000000)) cx cx fun Q' q => by rw [gPow_ii, e29]; exact ⟨p29, q⟩).fz
        refine b_ret (P := fun d => ∃ x : Int, d = .int x ∧ 0 ≤ x ∧ x < 10 ^ 30) (c := 0 + 1) (b_op (P1 := fun d => d = .int 100000000000000000000000000000) (b_pure (fun o => ⟨fun q => (ev_op (r := .fz (.int 100000000000000000000000000000)) cx cx fun Q' q => by rw [gPow_ii, e29]; exact ⟨p29, q⟩).go q⟩) rfl) (b_draw (rest := [some (.fz (.int i))]) 800000000000000000000000000000 (by decide) (by decide) fun o => (ev_frz (ev_op (r := .fz (.int 800000000000000000000000000000)) cx pw fun Q' q => by rw [gMulT_ii]; exact ⟨by unfold CMulX; decide, q⟩).fz).fz) fun a b ha hb Q' q => by
          obtain ⟨x, hb, x0, x1⟩ := hb
          subst ha hb
          rw [gAdd_ii]
          exact q _ ⟨_, rfl, by omega, by omega⟩) bg1 (by omega) fun d o2 hd bg2 => ?_
        obtain ⟨x, rfl, x0, x1⟩ := hd
        exact ⟨_, rfl, q _ _ x0 x1 (bg2.mono (by omega))⟩
def S__law_is_row : FSpec := fun args Q _ => ∃ (r : List Int) (w : Nat), args = [.fz (rowD r), .fz (.int w)] ∧ r.length = w ∧ w ≤ 1000 ∧ (∀ x ∈ r, 0 ≤ x) ∧ Q (.fz (.bl true)) args
theorem mS__law_is_row : MonoF S__law_is_row := ⟨fun h _ ⟨w, o, a, b, c, e, q⟩ => ⟨w, o, a, b, c, e, h _ _ q⟩⟩
theorem kp__law_is_row : Keeps S__law_is_row [] 2 3 (w__law_is_row S__law_is_integer) where
  fit := fun args Q E ⟨w, xs, a, _⟩ => a ▸ fit2
  run := fun args Q E ⟨r, w, a, h1, hw, h0, q⟩ => by
    subst a
    unfold w__law_is_row wLc
    have ty : (rowD r).ty = some .tup := rfl
    simp_all! only [ty]
    simp only [isaT, decide_true, Bool.not_true]
    rw [List.length_map, h1]
    refine iteB (fun h => (nomatch h)) fun _ => iteB (fun h => ?_) fun _ => ?_
    · simp at h
    · have sz := sizeLine_eq
      simp only [wipeE, List.set_cons_zero, List.set_cons_succ]
      refine cw_map (fun _ => .bl true) True.intro _ (fun d hd => ?_) (by rw [List.length_map]; omega) ?_
      · obtain ⟨x, hx, rfl⟩ := List.mem_map.mp hd
        refine ⟨_, rfl, rfl, fun G g => ?_⟩
        walk_at "lv"
        simp only [S__law_is_integer, S_is_integer]
        walk_at "lv"
        refine ⟨rfl, ?_⟩
        simp_all! only [isInt]
        simp only [List.set_cons_zero, List.set_cons_succ] at g
        rw [decide_eq_true (h0 x hx)]
        exact g
      · refine ⟨List.replicate r.length true, ?_, ?_⟩
        · rw [List.map_map]
          simp [Function.comp_def, List.map_const']
        · rw [show (List.replicate r.length true).all id = true by simp]
          exact q
def mx2 (i j : Int) : Int := if j > i then j else i
def mxL : List Int → Int
  | [] => 0
  | [x] => x
  | x :: y :: l => mx2 x (mxL (y :: l))
theorem mx2_ge (i j : Int) : i ≤ mx2 i j ∧ j ≤ mx2 i j := by unfold mx2; split <;> omega
theorem mxL_mem : ∀ {l : List Int}, l ≠ [] → mxL l ∈ l
  | [], h => absurd rfl h
  | [x], _ => List.mem_cons_self
  | x :: y :: l, _ => by
    have ih := mxL_mem (l := y :: l) (by simp)
    unfold mxL mx2
    split
    · exact List.mem_cons_of_mem _ ih
    · exact List.mem_cons_self
theorem mxL_ge : ∀ {l : List Int} {y : Int}, y ∈ l → y ≤ mxL l
  | [], _, h => nomatch h
  | [x], y, h => by rw [List.mem_singleton.mp h]; exact Int.le_refl _
  | x :: z :: l, y, h => by
    rcases List.mem_cons.mp h with e | e
    · rw [e]; exact (mx2_ge _ _).1
    · exact Int.le_trans (mxL_ge e) (mx2_ge _ _).2
def colJ (rows : List (List Int)) (n : Nat) : List Int := (List.range n).map fun k => mxL (rows.map fun r => r.getD k 0)
def S_joined : FSpec := fun args Q E => ∃ f rest, args = [.fz f, .fz (.tup rest)] ∧ f.plain = true ∧ plainL rest = true ∧ rest.length ≤ 1000 ∧ (firstBad .non (f :: rest) = none → ∀ r rs, f = rowD r → rest = rs.map rowD → (∀ g ∈ rs, g.length = r.length) → 1 ≤ r.length → r.length ≤ 8 → Q (.fz (rowD (colJ (r :: rs) r.length))) args) ∧
  ∀ v, firstBad .non (f :: rest) = some v → E (IR v) args
theorem mS_joined : MonoF S_joined := ⟨fun h h' ⟨f, r, a, b, c, d, q, e⟩ => ⟨f, r, a, b, c, d, fun k x y p1 p2 p3 p4 p5 => h _ _ (q k x y p1 p2 p3 p4 p5), fun v k => h' _ _ (e v k)⟩⟩
theorem firstBad_w : ∀ {l : List D} {w : Nat}, firstBad (.int w) l = none → ∃ rs : List (List Int), l = rs.map rowD ∧ ∀ r ∈ rs, r.length = w ∧ ∀ x ∈ r, 0 ≤ x
  | [], w, _ => ⟨[], rfl, fun _ z => (nomatch z)⟩
  | v :: l, w, h => by
    unfold firstBad at h
    cases hv : isRowD v (.int w) with
    | false => rw [hv] at h; cases h
    | true =>
      rw [hv, if_pos rfl] at h
      obtain ⟨r, rfl, h0, _, _, hw⟩ := isRowD_row hv
      have el : r.length = w := by have := of_decide_eq_true hw; omega
      have h : firstBad (.int ((r.map D.int).length : Nat)) l = none := h
      rw [List.length_map, el] at h
      obtain ⟨hs, e, hh⟩ := firstBad_w h
      exact ⟨r :: hs, by rw [e]; rfl, fun x hx => by
        rcases List.mem_cons.mp hx with z | z
        · rw [z]; exact ⟨el, h0⟩
        · exact hh x z⟩
theorem firstBad_none {v : D} {l : List D} (h : firstBad .non (v :: l) = none) : ∃ (r : List Int) (rs : List (List Int)), v = rowD r ∧ l = rs.map rowD ∧ 1 ≤ r.length ∧ r.length ≤ 8 ∧ (∀ x ∈ r, 0 ≤ x) ∧ ∀ g ∈ rs, g.length = r.length ∧ ∀ x ∈ g, 0 ≤ x := by
  unfold firstBad at h
  cases hv : isRowD v .non with
  | false => rw [hv] at h; cases h
  | true =>
    rw [hv, if_pos rfl] at h
    obtain ⟨r, rfl, h0, h1, h8, _⟩ := isRowD_row hv
    have h : firstBad (.int ((r.map D.int).length : Nat)) l = none := h
    rw [List.length_map] at h
    obtain ⟨rs, e, hr⟩ := firstBad_w h
    exact ⟨r, rs, rfl, e, h1, h8, h0, hr⟩
theorem getD_ix {r : List Int} {k : Nat} (h : k < r.length) : L2.atI (r.map D.int) (k : Int) = some (.int (r.getD k 0)) := at_nat (by rw [List.getElem?_map, List.getD_eq_getElem?_getD, List.getElem?_eq_getElem h]; rfl)
def colV (rows : List (List Int)) : D → D
  | .int k => .int (mxL (rows.map fun r => r.getD k.toNat 0))
  | d => d
def colE : D → D → D
  | .int k, d => .int ((unR d).getD k.toNat 0)
  | _, d => d
theorem colE_row (k : Nat) (x : List Int) : colE (.int k) (rowD x) = .int (x.getD k 0) := by
  show D.int ((unR (rowD x)).getD (k : Int).toNat 0) = _
  rw [unR_row, Int.toNat_natCast]
theorem colV_row (rows : List (List Int)) (k : Nat) : colV rows (.int k) = .int (mxL (rows.map fun r => r.getD k 0)) := by
  show D.int (mxL (rows.map fun r => r.getD (k : Int).toNat 0)) = _
  rw [Int.toNat_natCast]
theorem kp_joined : Keeps S_joined [] 2 5 (w_joined S_check_rows) where
  fit := fun args Q E ⟨f, r, a, _⟩ => a ▸ fit2
  run := fun args Q E ⟨f, rest, a, hf, hr, hl, q, e⟩ => by
    subst a
    unfold w_joined
    have sz := sizeLine_eq
    refine seq_k fun K1 hn hr1 hb hct he => ?_
    simp_all! only [wStar, frzL_fz]
    refine ⟨by omega, hn _ (seq_k fun K2 hn2 hr2 hb2 hct2 he2 => ?_)⟩
    have hp : plainL (f :: rest) = true := by show (f.plain && plainL rest) = true; rw [hf, hr]; rfl
    simp_all! only [S_check_rows]
    refine ⟨hp, fun k => ?_, fun v k => by rw [he2]; walk_at "lv"; exact e v k⟩
    obtain ⟨r, rs, rfl, rfl, w1, w8, h0, hrs⟩ := firstBad_none k
    have q' := q k r rs rfl rfl (fun g hg => (hrs g hg).1) w1 w8
    refine hn2 _ ?_
    unfold wLc
    walk_at "lv"
    refine ⟨by unfold okR; rw [List.length_map]; omega, ?_⟩
    rw [List.length_map, Int.toNat_natCast]
    simp only [wipeE, List.set_cons_zero, List.set_cons_succ]
    refine cw_map (colV (r :: rs)) True.intro _ (fun d hd => ?_) (by rw [rng_eq, List.length_map, List.length_range]; omega) ?_
    · rw [rng_eq] at hd
      obtain ⟨k, hk, rfl⟩ := List.mem_map.mp hd
      have hk : k < r.length := List.mem_range.mp hk
      rw [Int.zero_add]
      refine ⟨_, rfl, rfl, fun G g => ?_⟩
      simp only [List.set_cons_zero, List.set_cons_succ]
      walk_at "lv"
      have all : ∀ x ∈ r :: rs, k < x.length := fun x hx => by
        rcases List.mem_cons.mp hx with z | z
        · rw [z]; exact hk
        · rw [(hrs x z).1]; exact hk
      refine cw_map (colE (.int k)) True.intro _ (fun d hd => ?_) (by rw [List.length_cons, List.length_map]; rw [List.length_map] at hl; omega) ?_
      · have hd' : d ∈ (r :: rs).map rowD := hd
        obtain ⟨x, hx, rfl⟩ := List.mem_map.mp hd'
        refine ⟨_, rfl, rfl, fun G g => ?_⟩
        simp only [List.set_cons_zero, List.set_cons_succ]
        walk_at "lv"
        refine ⟨_, getD_ix (all x hx), ?_⟩
        rw [colE_row] at g
        exact g
      · have ec : (rowD r :: rs.map rowD).map (colE (.int k)) = ((r :: rs).map fun x => x.getD k 0).map D.int := by
          rw [show rowD r :: rs.map rowD = (r :: rs).map rowD from rfl, List.map_map, List.map_map]
          refine List.map_congr_left fun x _ => ?_
          exact colE_row k x
        rw [ec]
        simp_all! only [gMaxL]
        refine ⟨(r :: rs).map fun x => x.getD k 0, rfl, _, mxL_mem (by simp), fun y hy => mxL_ge hy, ?_⟩
        rw [colV_row] at g
        exact g
    · have ej : (rngD 0 r.length).map (colV (r :: rs)) = (colJ (r :: rs) r.length).map D.int := by
        rw [rng_eq, List.map_map, colJ, List.map_map]
        refine List.map_congr_left fun k _ => ?_
        show colV (r :: rs) (.int (0 + (k : Int))) = .int _
        rw [Int.zero_add]; exact colV_row _ k
      rw [ej]
      exact q'
end LV
set_option maxHeartbeats 1000000
namespace LV
open PySem PySem.Spec L2
def mn2 (i j : Int) : Int := if j < i then j else i
def mnL : List Int → Int
  | [] => 0
  | [x] => x
  | x :: y :: l => mn2 x (mnL (y :: l))
theorem mn2_le (i j : Int) : mn2 i j ≤ i ∧ mn2 i j ≤ j := by unfold mn2; split <;> omega
theorem mnL_mem : ∀ {l : List Int}, l ≠ [] → mnL l ∈ l
  | [], h => absurd rfl h
  | [x], _ => List.mem_cons_self
  | x :: y :: l, _ => by
    have ih := mnL_mem (l := y :: l) (by simp)
    unfold mnL mn2
    split
    · exact List.mem_cons_of_mem _ ih
    · exact List.mem_cons_self
theorem mnL_le : ∀ {l : List Int} {y : Int}, y ∈ l → mnL l ≤ y
  | [], _, h => nomatch h
  | [x], y, h => by rw [List.mem_singleton.mp h]; exact Int.le_refl _
  | x :: z :: l, y, h => by
    rcases List.mem_cons.mp h with e | e
    · rw [e]; exact (mn2_le _ _).1
    · exact Int.le_trans (mn2_le _ _).2 (mnL_le e)
def colS (rows : List (List Int)) (n : Nat) : List Int := (List.range n).map fun k => mnL (rows.map fun r => r.getD k 0)
def S_shared : FSpec := fun args Q E => ∃ f rest, args = [.fz f, .fz (.tup rest)] ∧ f.plain = true ∧ plainL rest = true ∧ rest.length ≤ 1000 ∧ (firstBad .non (f :: rest) = none → ∀ r rs, f = rowD r → rest = rs.map rowD → (∀ g ∈ rs, g.length = r.length) → 1 ≤ r.length → r.length ≤ 8 → Q (.fz (rowD (colS (r :: rs) r.length))) args) ∧
  ∀ v, firstBad .non (f :: rest) = some v → E (IR v) args
theorem mS_shared : MonoF S_shared := ⟨fun h h' ⟨f, r, a, b, c, d, q, e⟩ => ⟨f, r, a, b, c, d, fun k x y p1 p2 p3 p4 p5 => h _ _ (q k x y p1 p2 p3 p4 p5), fun v k => h' _ _ (e v k)⟩⟩
def colVm (rows : List (List Int)) : D → D
  | .int k => .int (mnL (rows.map fun r => r.getD k.toNat 0))
  | d => d
theorem colVm_row (rows : List (List Int)) (k : Nat) : colVm rows (.int k) = .int (mnL (rows.map fun r => r.getD k 0)) := by
  show D.int (mnL (rows.map fun r => r.getD (k : Int).toNat 0)) = _
  rw [Int.toNat_natCast]
theorem kp_shared : Keeps S_shared [] 2 5 (w_shared S_check_rows) where
  fit := fun args Q E ⟨f, r, a, _⟩ => a ▸ fit2
  run := fun args Q E ⟨f, rest, a, hf, hr, hl, q, e⟩ => by
    subst a
    unfold w_shared
    have sz := sizeLine_eq
    refine seq_k fun K1 hn hr1 hb hct he => ?_
    simp_all! only [wStar, frzL_fz]
    refine ⟨by omega, hn _ (seq_k fun K2 hn2 hr2 hb2 hct2 he2 => ?_)⟩
    have hp : plainL (f :: rest) = true := by show (f.plain && plainL rest) = true; rw [hf, hr]; rfl
    simp_all! only [S_check_rows]
    refine ⟨hp, fun k => ?_, fun v k => by rw [he2]; walk_at "lv"; exact e v k⟩
    obtain ⟨r, rs, rfl, rfl, w1, w8, h0, hrs⟩ := firstBad_none k
    have q' := q k r rs rfl rfl (fun g hg => (hrs g hg).1) w1 w8
    refine hn2 _ ?_
    unfold wLc
    walk_at "lv"
    refine ⟨by unfold okR; rw [List.length_map]; omega, ?_⟩
    rw [List.length_map, Int.toNat_natCast]
    simp only [wipeE, List.set_cons_zero, List.set_cons_succ]
    refine cw_map (colVm (r :: rs)) True.intro _ (fun d hd => ?_) (by rw [rng_eq, List.length_map, List.length_range]; omega) ?_
    · rw [rng_eq] at hd
      obtain ⟨k, hk, rfl⟩ := List.mem_map.mp hd
      have hk : k < r.length := List.mem_range.mp hk
      rw [Int.zero_add]
      refine ⟨_, rfl, rfl, fun G g => ?_⟩
      simp only [List.set_cons_zero, List.set_cons_succ]
      walk_at "lv"
      have all : ∀ x ∈ r :: rs, k < x.length := fun x hx => by
        rcases List.mem_cons.mp hx with z | z
        · rw [z]; exact hk
        · rw [(hrs x z).1]; exact hk
      refine cw_map (colE (.int k)) True.intro _ (fun d hd => ?_) (by rw [List.length_cons, List.length_map]; rw [List.length_map] at hl; omega) ?_
      · have hd' : d ∈ (r :: rs).map rowD := hd
        obtain ⟨x, hx, rfl⟩ := List.mem_map.mp hd'
        refine ⟨_, rfl, rfl, fun G g => ?_⟩
        simp only [List.set_cons_zero, List.set_cons_succ]
        walk_at "lv"
        refine ⟨_, getD_ix (all x hx), ?_⟩
        rw [colE_row] at g
        exact g
      · have ec : (rowD r :: rs.map rowD).map (colE (.int k)) = ((r :: rs).map fun x => x.getD k 0).map D.int := by
          rw [show rowD r :: rs.map rowD = (r :: rs).map rowD from rfl, List.map_map, List.map_map]
          refine List.map_congr_left fun x _ => ?_
          exact colE_row k x
        rw [ec]
        simp_all! only [gMinL]
        refine ⟨(r :: rs).map fun x => x.getD k 0, rfl, _, mnL_mem (by simp), fun y hy => mnL_le hy, ?_⟩
        rw [colVm_row] at g
        exact g
    · have ej : (rngD 0 r.length).map (colVm (r :: rs)) = (colS (r :: rs) r.length).map D.int := by
        rw [rng_eq, List.map_map, colS, List.map_map]
        refine List.map_congr_left fun k _ => ?_
        show colVm (r :: rs) (.int (0 + (k : Int))) = .int _
        rw [Int.zero_add]; exact colVm_row _ k
      rw [ej]
      exact q'
theorem fb_bad {a : D} {l : List D} {w : D} (h : isRowD a w = false) : firstBad w (a :: l) = some a := by
  unfold firstBad; rw [h]; rfl
theorem fb_ok {r : List Int} {l : List D} {w : D} (h : isRowD (rowD r) w = true) : firstBad w (rowD r :: l) = firstBad (.int r.length) l := by
  rw [firstBad, h, if_pos rfl]
  show firstBad (.int ((r.map D.int).length : Nat)) l = _
  rw [List.length_map]
theorem fb_one {a w : D} : firstBad w [a] = if isRowD a w = true then none else some a := by
  cases h : isRowD a w with
  | false => rw [fb_bad h]; rfl
  | true =>
    obtain ⟨r, rfl, _⟩ := isRowD_row h
    rw [fb_ok h]; rfl
def S_covers : FSpec := fun args Q E => ∃ a b, args = [.fz a, .fz b] ∧ a.plain = true ∧ b.plain = true ∧ (∀ x y, firstBad .non [a, b] = none → a = rowD x → b = rowD y → Q (.fz (.bl (cov x y))) args) ∧ ∀ v, firstBad .non [a, b] = some v → E (IR v) args
theorem mS_covers : MonoF S_covers := ⟨fun h h' ⟨a, b, e, p, p', q, x⟩ => ⟨a, b, e, p, p', fun u v k1 k2 k3 => h _ _ (q u v k1 k2 k3), fun v k => h' _ _ (x v k)⟩⟩
theorem kp_covers : Keeps S_covers [] 2 2 (w_covers S_check_row S_entries_cover) where
  fit := fun args Q E ⟨a, b, e, _⟩ => e ▸ fit2
  run := fun args Q E ⟨a, b, e, ha, hb, q, x⟩ => by
    subst e
    unfold w_covers
    refine seq_k fun K1 hn1 hr1 hb1 hct1 he1 => ?_
    simp_all! only [S_check_row]
    refine ⟨ha, .inl rfl, fun k => ?_, fun k => ?_⟩
    · obtain ⟨r, rfl, _⟩ := isRowD_row k
      refine hn1 _ (seq_k fun K2 hn2 hr2 hb2 hct2 he2 => ?_)
      simp_all! only [S_check_row]
      have e2 : firstBad .non [rowD r, b] = if isRowD b (.int r.length) = true then none else some b := by rw [fb_ok k, fb_one]
      rw [List.length_map]
      refine ⟨hb, .inr ⟨_, rfl⟩, fun k2 => ?_, fun k2 => ?_⟩
      · obtain ⟨s, rfl, _⟩ := isRowD_row k2
        refine hn2 _ ?_
        simp_all! only [S_entries_cover]
        exact ⟨r, rfl, s, rfl, q r s (by rw [e2, if_pos k2]) rfl rfl⟩
      · rw [he2]
        walk_at "lv"
        exact x b (by rw [e2, k2]; rfl)
    · rw [he1]
      walk_at "lv"
      exact x a (fb_bad k)
def S_size : FSpec := fun args Q E => ∃ a, args = [.fz a] ∧ a.plain = true ∧ (∀ r, isRowD a .non = true → a = rowD r → Q (.fz (.int r.sum)) args) ∧ (isRowD a .non = false → E (IR a) args)
theorem mS_size : MonoF S_size := ⟨fun h h' ⟨a, e, p, q, x⟩ => ⟨a, e, p, fun u k1 k2 => h _ _ (q u k1 k2), fun k => h' _ _ (x k)⟩⟩
theorem kp_size : Keeps S_size [] 1 1 (w_size S_check_row) where
  fit := fun args Q E ⟨a, e, _⟩ => e ▸ fit1
  run := fun args Q E ⟨a, e, ha, q, x⟩ => by
    subst e
    unfold w_size
    refine seq_k fun K1 hn1 hr1 hb1 hct1 he1 => ?_
    simp_all! only [S_check_row]
    refine ⟨ha, .inl rfl, fun k => ?_, fun k => ?_⟩
    · obtain ⟨r, rfl, _⟩ := isRowD_row k
      refine hn1 _ ?_
      simp_all! only [gSumT]
      exact ⟨r, rfl, q r k rfl⟩
    · rw [he1]
      walk_at "lv"
      exact x k
end LV
namespace LV
open PySem PySem.Spec L2
section
variable {rest : List (Option Val)} {w : EW} {P : D → Prop} {c i m : Nat} {ds : List D} {K : Ks} {o : O}
theorem app_b (h : EvB rest w P c) (hi : rest[i]? = some (some (.ow (.lst ds)))) (bg : BagOk o (m : Int)) (hm : m + c ≤ 100000) (hl : ds.length < 1000) (q : ∀ d o', P d → BagOk o' ((m + c : Nat) : Int) → K.nx (some (.ow o') :: rest.set i (some (.ow (.lst (ds ++ [d])))))) : wApp (i + 1) w K (some (.ow o) :: rest) := by
  have sz := sizeLine_eq
  unfold wApp
  refine ⟨⟨ds, hi⟩, ?_⟩
  unfold wFz
  exact h.go bg hm fun d o' p b => ⟨ds, d, _, (fun z => nomatch z), rfl, hi, by omega, q d o' p b⟩
theorem app_p {d : D} (h : ∀ o, EvR (some (.ow o) :: rest) w (.fz d) (some (.ow o) :: rest)) (p : P d) (hi : rest[i]? = some (some (.ow (.lst ds)))) (bg : BagOk o (m : Int)) (hm : m ≤ 100000) (hl : ds.length < 1000) (q : ∀ d o', P d → BagOk o' (m : Int) → K.nx (some (.ow o') :: rest.set i (some (.ow (.lst (ds ++ [d])))))) : wApp (i + 1) w K (some (.ow o) :: rest) :=
  app_b (c := 0) (b_pure h p) hi bg hm hl fun d o' p b => q d o' p b
end
/-- a drawn entry -/
def EntI (d : D) : Prop := ∃ x : Int, d = .int x ∧ 0 ≤ x ∧ x < 10 ^ 30 + 1
theorem bEntry (rest : List (Option Val)) : EvB rest (wCall S__law_entry (wCons (wVar 0) wNil)) (fun d => ∃ x : Int, d = .int x ∧ 0 ≤ x ∧ x < 10 ^ 30) 2 :=
  b_call (ds := []) mS__law_entry (fun _ => evl_nil) fun o m Q' E' bg hm q => ⟨o, m, rfl, bg, hm, fun x o' x0 x1 b => q _ o' ⟨x, rfl, x0, x1⟩ b⟩
def nearB : SW := (wSeq (wSet 6 (wCall S__law_take (wCons (wVar 0) (wCons (wC (.int 3)) wNil))))
  (wIf (wtAnd (wB (wOp2 gEq (wVar 2) (wC (.int 1)))) (wB (wOp2 gEq (wVar 5) (wVar 3))))
  (wApp 4 (wOp2 gAdd (wOp2 gIx (wVar 1) (wVar 5)) (wC (.int 1))))
  (wIf (wB (wOp2 gEq (wVar 6) (wC (.int 0))))
  (wApp 4 (wOp2 gIx (wVar 1) (wVar 5)))
  (wIf (wB (wOp2 gEq (wVar 6) (wC (.int 1))))
  (wApp 4 (wBlt gMax2 (wCons (wOp2 gSub (wOp2 gIx (wVar 1) (wVar 5)) (wC (.int 1))) (wCons (wC (.int 0)) wNil))))
  (wIf (wB (wOp2 gEq (wVar 2) (wC (.int 2))))
  (wApp 4 (wCall S__law_entry (wCons (wVar 0) wNil)))
  (wApp 4 (wCall S__law_take (wCons (wVar 0) (wCons (wFrz (wOp2 gAdd (wOp2 gIx (wVar 1) (wVar 5)) (wC (.int 1)))) wNil)))))))))
abbrev En7 (o : O) (r : List Int) (md pl : Int) (xs : List D) (v5 v6 : Option Val) : En := [some (.ow o), some (.fz (rowD r)), some (.fz (.int md)), some (.fz (.int pl)), some (.ow (.lst xs)), v5, v6]
theorem near_step {K : Ks} {o : O} {r : List Int} {md pl : Int} {xs : List D} {v6 : Option Val} {k m : Nat} {x : Int} (hx : r[k]? = some x) (x0 : 0 ≤ x) (x1 : x < 10 ^ 30) (hl : xs.length < 100) (bg : BagOk o (m : Int)) (hm : m + 3 ≤ 100000)
    (q : ∀ d o' v6, EntI d → BagOk o' ((m + 3 : Nat) : Int) → K.nx (En7 o' r md pl (xs ++ [d]) (some (.fz (.int (k : Int)))) v6)) : nearB K (En7 o r md pl xs (some (.fz (.int (k : Int)))) v6) := by
  unfold nearB
  refine seq_k fun K1 hn1 _ _ _ _ => b_set (i := 5) (bDr _ 3) bg (by omega) fun d o1 hd bg1 => hn1 _ ?_
  obtain ⟨st, rfl, s0, s1⟩ := hd
  change wIf _ _ _ _ (En7 o1 r md pl xs (some (.fz (.int (k : Int)))) (some (.fz (.int st))))
  have rx : ∀ o : O, EvR (En7 o r md pl xs (some (.fz (.int (k : Int)))) (some (.fz (.int st)))) (wOp2 gIx (wVar 1) (wVar 5)) (.fz (.int x)) (En7 o r md pl xs (some (.fz (.int (k : Int)))) (some (.fz (.int st)))) := fun o =>
    ev_op (vx 1 rfl) (vx 5 rfl) fun Q' q => ix_tup (by rw [List.getElem?_map, hx]; rfl) q
  have fin : ∀ d o', EntI d → BagOk o' ((m + 1 : Nat) : Int) → K.nx (some (.ow o') :: ([some (.fz (rowD r)), some (.fz (.int md)), some (.fz (.int pl)), some (.ow (.lst xs)), some (.fz (.int (k : Int))), some (.fz (.int st))] : List (Option Val)).set 3 (some (.ow (.lst (xs ++ [d]))))) := fun d o' p b => q d o' _ p (b.mono (by omega))
  have other : wIf (wB (wOp2 gEq (wVar 6) (wC (.int 0)))) (wApp 4 (wOp2 gIx (wVar 1) (wVar 5))) (wIf (wB (wOp2 gEq (wVar 6) (wC (.int 1)))) (wApp 4 (wBlt gMax2 (wCons (wOp2 gSub (wOp2 gIx (wVar 1) (wVar 5)) (wC (.int 1))) (wCons (wC (.int 0)) wNil)))) (wIf (wB (wOp2 gEq (wVar 2) (wC (.int 2)))) (wApp 4 (wCall S__law_entry (wCons (wVar 0) wNil))) (wApp 4 (wCall S__law_take (wCons (wVar 0) (wCons (wFrz (wOp2 gAdd (wOp2 gIx (wVar 1) (wVar 5)) (wC (.int 1)))) wNil)))))) K (En7 o1 r md pl xs (some (.fz (.int (k : Int)))) (some (.fz (.int st)))) := by
    by_cases h0 : st = 0
    · exact run_if_t (evt_B (ev_eqi' (vx 6 rfl) cx (decide_eq_true h0))) (app_p (i := 3) (P := EntI) (rx) ⟨x, rfl, x0, by omega⟩ rfl bg1 (by omega) (by omega) fin)
    · refine run_if_f (evt_B (ev_eqi' (vx 6 rfl) cx (decide_eq_false h0))) ?_
      by_cases h1 : st = 1
      · refine run_if_t (evt_B (ev_eqi' (vx 6 rfl) cx (decide_eq_true h1))) (app_p (i := 3) (d := .int (if 0 > x - 1 then 0 else x - 1)) (P := EntI) (fun o => ev_blt (evl_cons (ev_subi (rx o).fz cx).fz (evl_cons cx evl_nil)) fun Q' q => by rw [gMax2_ii]; exact q) ⟨_, rfl, by split <;> omega, by split <;> omega⟩ rfl bg1 (by omega) (by omega) fin)
      · refine run_if_f (evt_B (ev_eqi' (vx 6 rfl) cx (decide_eq_false h1))) ?_
        by_cases h2 : md = 2
        · refine run_if_t (evt_B (ev_eqi' (vx 2 rfl) cx (decide_eq_true h2))) (app_b (i := 3) (b_w (bEntry _) (P := EntI) fun d ⟨x, e, a, b⟩ => ⟨x, e, a, by omega⟩) rfl bg1 (by omega) (by omega) fun d o' p b => q d o' _ p (b.mono (by omega)))
        · refine run_if_f (evt_B (ev_eqi' (vx 2 rfl) cx (decide_eq_false h2))) (app_b (i := 3) (b_w (b_draw (x + 1) (by omega) (by omega) fun o => (ev_frz (ev_addi (rx o).fz cx).fz).fz) (P := EntI) fun d ⟨y, e, a, b⟩ => ⟨y, e, a, by omega⟩) rfl bg1 (by omega) (by omega) fun d o' p b => q d o' _ p (b.mono (by omega)))
  by_cases hm1 : md = 1
  · by_cases hp : (k : Int) = pl
    · exact run_if_t (evt_and_t (evt_B (ev_eqi' (vx 2 rfl) cx (decide_eq_true hm1))) (evt_B (ev_eqi' (vx 5 rfl) (vx 3 rfl) (decide_eq_true hp)))) (app_p (i := 3) (P := EntI) (fun o => ev_addi (rx o).fz cx) ⟨x + 1, rfl, by omega, by omega⟩ rfl bg1 (by omega) (by omega) fin)
    · exact run_if_f (evt_and_t (evt_B (ev_eqi' (vx 2 rfl) cx (decide_eq_true hm1))) (evt_B (ev_eqi' (vx 5 rfl) (vx 3 rfl) (decide_eq_false hp)))) other
  · exact run_if_f (evt_and_f (evt_B (ev_eqi' (vx 2 rfl) cx (decide_eq_false hm1)))) other
theorem near_lp {K : Ks} {r : List Int} {md pl : Int} (hr : ∀ x ∈ r, 0 ≤ x ∧ x < 10 ^ 30) (h8 : r.length ≤ 8) : ∀ (j k : Nat) (xs : List D) (o : O) (m : Nat) (v5 v6 : Option Val), k + j = r.length → xs.length = k → (∀ d ∈ xs, EntI d) → BagOk o (m : Int) → m + 3 * j ≤ 100000 →
    (∀ xs o' v5 v6, xs.length = r.length → (∀ d ∈ xs, EntI d) → BagOk o' ((m + 3 * j : Nat) : Int) → K.nx (En7 o' r md pl xs v5 v6)) → loopW (.n 5) nearB yesK K (rngD (k : Int) j) (En7 o r md pl xs v5 v6)
  | 0, k, xs, o, m, v5, v6, hk, hl, hx, bg, hm, q => ⟨True.intro, q xs o v5 v6 (by omega) hx bg⟩
  | j + 1, k, xs, o, m, v5, v6, hk, hl, hx, bg, hm, q => by
    have hkl : k < r.length := by omega
    refine ⟨True.intro, _, rfl, ?_⟩
    obtain ⟨x0, x1⟩ := hr r[k] (List.getElem_mem hkl)
    refine near_step (x := r[k]) (List.getElem?_eq_getElem hkl) x0 x1 (by omega) bg (by omega) fun d o' v6 p b => ?_
    rw [show (k : Int) + 1 = ((k + 1 : Nat) : Int) by omega]
    refine near_lp hr h8 j (k + 1) (xs ++ [d]) o' (m + 3) _ v6 (by omega) (by rw [List.length_append, hl]; rfl) (fun y hy => ?_) b (by omega) fun xs o' v5 v6 a b c => q xs o' v5 v6 a b (by rw [show m + 3 * (j + 1) = m + 3 + 3 * j by omega]; exact c)
    rcases List.mem_append.mp hy with z | z
    · exact hx y z
    · rw [List.mem_singleton.mp z]; exact p
theorem ents_of : ∀ {xs : List D}, (∀ d ∈ xs, EntI d) → ∃ r : List Int, xs = r.map D.int ∧ ∀ x ∈ r, 0 ≤ x ∧ x < 10 ^ 30 + 1
  | [], _ => ⟨[], rfl, fun _ z => nomatch z⟩
  | d :: xs, h => by
    obtain ⟨x, rfl, x0, x1⟩ := h d List.mem_cons_self
    obtain ⟨r, rfl, hr⟩ := ents_of fun y hy => h y (List.mem_cons_of_mem _ hy)
    exact ⟨x :: r, rfl, fun y hy => by
      rcases List.mem_cons.mp hy with rfl | z
      · exact ⟨x0, x1⟩
      · exact hr y z⟩
def S__law_near : FSpec := fun args Q _ => ∃ (o : O) (m : Nat) (r : List Int), args = [.ow o, .fz (rowD r)] ∧ BagOk o (m : Int) ∧ m + 26 ≤ 100000 ∧ 1 ≤ r.length ∧ r.length ≤ 8 ∧ (∀ x ∈ r, 0 ≤ x ∧ x < 10 ^ 30) ∧ ∀ (s : List Int) o', RowOk r.length (10 ^ 30 + 1) s → BagOk o' ((m + 26 : Nat) : Int) → Q (.fz (rowD s)) [.ow o', .fz (rowD r)]
theorem mS__law_near : MonoF S__law_near := ⟨fun h _ ⟨o, m, r, a, b, c, d, e, f, q⟩ => ⟨o, m, r, a, b, c, d, e, f, fun x y h1 h2 => h _ _ (q x y h1 h2)⟩⟩
theorem kp__law_near : Keeps S__law_near [0] 2 7 (w__law_near S__law_take S__law_entry) where
  fit := fun args Q E ⟨o, m, r, a, _⟩ => a ▸ fitO2
  run := fun args Q E ⟨o, m, r, a, bg, hm, h1, h8, hr, q⟩ => by
    subst a
    unfold w__law_near
    have sz := sizeLine_eq
    have len : ∀ {env : En}, env[1]? = some (some (.fz (rowD r))) → EvR env (wBlt gLen (wCons (wVar 1) wNil)) (.fz (.int (r.length : Int))) env := fun h => by
      have := ev_lent (ds := r.map D.int) (vx 1 h)
      rw [List.length_map] at this
      exact this
    change wSeq _ _ _ [some (.ow o), some (.fz (rowD r)), none, none, none, none, none]
    refine seq_k fun K1 hn1 _ _ _ _ => b_set (i := 1) (bDr _ 3) bg (by omega) fun d o1 hd bg1 => hn1 _ ?_
    obtain ⟨md, rfl, _, _⟩ := hd
    change wSeq _ _ _ [some (.ow o1), some (.fz (rowD r)), some (.fz (.int md)), none, none, none, none]
    refine seq_k fun K2 hn2 _ _ _ _ => b_set (i := 2) (b_draw (r.length : Int) (by omega) (by omega) fun o => (ev_frz (len rfl).fz).fz) bg1 (by omega) fun d o2 hd bg2 => hn2 _ ?_
    obtain ⟨pl, rfl, _, _⟩ := hd
    change wSeq _ _ _ [some (.ow o2), some (.fz (rowD r)), some (.fz (.int md)), some (.fz (.int pl)), none, none, none]
    refine seq_k fun K3 hn3 _ _ _ _ => run_setO (ev_lst (ds := []) evl_nil (Nat.zero_le _)) (hn3 _ ?_)
    change wSeq _ _ _ (En7 o2 r md pl [] none none)
    refine seq_k fun K4 hn4 _ _ _ _ => run_forR (n := r.length) (evl_cons (len rfl).fz evl_nil) (by omega) ?_
    refine near_lp hr h8 r.length 0 [] o2 (m + 1 + 1) none none (by omega) rfl (fun _ z => nomatch z) bg2 (by omega) fun xs o3 v5 v6 hl hx bg3 => hn4 _ ?_
    obtain ⟨s, rfl, hs⟩ := ents_of hx
    rw [List.length_map] at hl
    refine run_ret (d := rowD s) (ev_bltS (o := .lst (s.map D.int)) rfl fun Q' q => q) ?_
    exact ⟨_, rfl, q s o3 ⟨hl, hs⟩ (bg3.mono (by omega))⟩
def S__law_rows : FSpec := fun args Q _ => ∃ (o : O) (m w : Nat), args = [.ow o, .fz (.int (w : Int))] ∧ BagOk o (m : Int) ∧ m + 100 ≤ 100000 ∧ 1 ≤ w ∧ w ≤ 8 ∧ ∀ (a b c d : List Int) o', RowOk w (10 ^ 30 + 1) a → RowOk w (10 ^ 30 + 1) b → RowOk w (10 ^ 30 + 1) c → RowOk w (10 ^ 30 + 1) d → BagOk o' ((m + 100 : Nat) : Int) → Q (.ow (.lst [rowD a, rowD b, rowD c, rowD d])) [.ow o', .fz (.int (w : Int))]
theorem mS__law_rows : MonoF S__law_rows := ⟨fun h _ ⟨o, m, w, a, b, c, d, e, q⟩ => ⟨o, m, w, a, b, c, d, e, fun x y z u v h1 h2 h3 h4 h5 => h _ _ (q x y z u v h1 h2 h3 h4 h5)⟩⟩
theorem ents30 : ∀ {xs : List D}, (∀ d ∈ xs, ∃ x : Int, d = .int x ∧ 0 ≤ x ∧ x < 10 ^ 30) → ∃ r : List Int, xs = r.map D.int ∧ ∀ x ∈ r, 0 ≤ x ∧ x < 10 ^ 30
  | [], _ => ⟨[], rfl, fun _ z => nomatch z⟩
  | d :: xs, h => by
    obtain ⟨x, rfl, x0, x1⟩ := h d List.mem_cons_self
    obtain ⟨r, rfl, hr⟩ := ents30 fun y hy => h y (List.mem_cons_of_mem _ hy)
    exact ⟨x :: r, rfl, fun y hy => by
      rcases List.mem_cons.mp hy with rfl | z
      · exact ⟨x0, x1⟩
      · exact hr y z⟩
theorem kp__law_rows : Keeps S__law_rows [0] 2 6 (w__law_rows S__law_entry S__law_near) where
  fit := fun args Q E ⟨o, m, w, a, _⟩ => a ▸ fitO2
  run := fun args Q E ⟨o, m, w, a, bg, hm, h1, h8, q⟩ => by
    subst a
    unfold w__law_rows
    have sz := sizeLine_eq
    change wSeq _ _ _ [some (.ow o), some (.fz (.int (w : Int))), none, none, none, none]
    have dr : ∀ (v2 v4 v5 : Option Val), EvB [some (.fz (.int (w : Int))), v2, none, v4, v5] (wBlt gTuple (wCons (wLc (.n 3) (wRng1 (wCons (wVar 1) wNil)) uYes (wCall S__law_entry (wCons (wVar 0) wNil)) [3]) wNil)) (fun d => ∃ ds, d = .tup ds ∧ ds.length = w ∧ ∀ x ∈ ds, ∃ y : Int, x = .int y ∧ 0 ≤ y ∧ y < 10 ^ 30) (2 * w) := fun v2 v4 v5 =>
      b_tuple (PL := fun ds => ds.length = w ∧ ∀ x ∈ ds, ∃ y : Int, x = .int y ∧ 0 ≤ y ∧ y < 10 ^ 30) (bo_lc (i := 2) (restf := fun v => [some (.fz (.int (w : Int))), v2, v, v4, v5]) (k := w) rfl (fun _ _ => rfl) (fun o => evl_cons (vx 1 rfl) evl_nil) (by omega) fun x => bEntry _)
    refine seq_k fun K1 hn1 _ _ _ _ => b_set (i := 1) (dr none none none) bg (by omega) fun d o1 hd bg1 => hn1 _ ?_
    obtain ⟨ds, rfl, hl, hx⟩ := hd
    obtain ⟨a, rfl, ha⟩ := ents30 hx
    rw [List.length_map] at hl
    subst hl
    change wSeq _ _ _ [some (.ow o1), some (.fz (.int (a.length : Int))), some (.fz (rowD a)), none, none, none]
    have near : ∀ (v1 v2 v3 v4 v5 : Option Val) (i : Nat) (r : List Int), ([v1, v2, v3, v4, v5] : List (Option Val))[i]? = some (some (.fz (rowD r))) → r.length = a.length → (∀ x ∈ r, 0 ≤ x ∧ x < 10 ^ 30) → EvB [v1, v2, v3, v4, v5] (wCall S__law_near (wCons (wVar 0) (wCons (wFrz (wVar (i + 1))) wNil))) (fun d => ∃ s, d = rowD s ∧ RowOk a.length (10 ^ 30 + 1) s) 26 := fun v1 v2 v3 v4 v5 i r hi hl hr =>
      b_call (ds := [rowD r]) mS__law_near (fun o => evl_cons (fx (i + 1) hi) evl_nil) fun o m Q' E' bg hm q => ⟨o, m, r, rfl, bg, hm, by omega, by omega, hr, fun s o' hs b => q _ o' ⟨s, rfl, by rw [← hl]; exact hs⟩ b⟩
    refine seq_k fun K2 hn2 _ _ _ _ => b_set (i := 3) (near _ _ _ _ _ 1 a rfl rfl ha) bg1 (by omega) fun d o2 hd bg2 => hn2 _ ?_
    obtain ⟨b, rfl, hb⟩ := hd
    change wSeq _ _ _ [some (.ow o2), some (.fz (.int (a.length : Int))), some (.fz (rowD a)), none, some (.fz (rowD b)), none]
    refine seq_k fun K3 hn3 _ _ _ _ => b_set (i := 4) (dr _ _ none) bg2 (by omega) fun d o3 hd bg3 => hn3 _ ?_
    obtain ⟨ds, rfl, hl, hx⟩ := hd
    obtain ⟨c, rfl, hc⟩ := ents30 hx
    rw [List.length_map] at hl
    change wRet _ _ _ [some (.ow o3), some (.fz (.int (a.length : Int))), some (.fz (rowD a)), none, some (.fz (rowD b)), some (.fz (rowD c))]
    have up : ∀ {r : List Int}, r.length = a.length → (∀ x ∈ r, 0 ≤ x ∧ x < 10 ^ 30) → RowOk a.length (10 ^ 30 + 1) r := fun h1 h2 => ⟨h1, fun x hx => by have := h2 x hx; omega⟩
    unfold wRet
    have fin := bl_cons (b_var 1 rfl (P := fun d => d = rowD a) rfl) (bl_cons (b_var 3 rfl (P := fun d => d = rowD b) rfl) (bl_cons (b_var 4 rfl (P := fun d => d = rowD c) rfl) (bl_cons (near (some (.fz (.int (a.length : Int)))) (some (.fz (rowD a))) none (some (.fz (rowD b))) (some (.fz (rowD c))) 4 c rfl hl hc) bl_nil)))
    refine (bo_lst fin fun ds ⟨d1, t1, e1, _, d2, t2, e2, _, d3, t3, e3, _, d4, t4, e4, _, e5⟩ => by subst e1 e2 e3 e4 e5; show 4 ≤ 1000; decide).go bg3 (by omega) fun x o4 hx bg4 => ?_
    obtain ⟨ds, rfl, d1, t1, rfl, rfl, d2, t2, rfl, rfl, d3, t3, rfl, rfl, d4, t4, rfl, ⟨s, rfl, hs⟩, rfl⟩ := hx
    exact ⟨_, rfl, q a b c s o4 (up rfl ha) hb (up hl hc) hs (bg4.mono (by omega))⟩
end LV
namespace LV
open PySem PySem.Spec L2
structure RwOk (w : Nat) (rows : List (List Int)) : Prop where
  w1 : 1 ≤ w
  w8 : w ≤ 8
  few : rows.length ≤ 10
  ok : ∀ r ∈ rows, r.length = w ∧ ∀ x ∈ r, 0 ≤ x
theorem row_inj {a b : List Int} (h : rowD a = rowD b) : a = b := by
  have := congrArg unR h
  rwa [unR_row, unR_row] at this
theorem rows_inj : ∀ {a b : List (List Int)}, a.map rowD = b.map rowD → a = b
  | [], [], _ => rfl
  | [], _ :: _, h => by cases h
  | _ :: _, [], h => by cases h
  | x :: a, y :: b, h => by
    rw [List.map_cons, List.map_cons] at h
    injection h with h1 h2
    rw [row_inj h1, rows_inj h2]
theorem fb_none {w : Nat} {rows : List (List Int)} (h1 : 1 ≤ w) (h8 : w ≤ 8) (h : ∀ r ∈ rows, r.length = w ∧ ∀ x ∈ r, 0 ≤ x) {v : D} (hv : v = .non ∨ v = .int w) : firstBad v (rows.map rowD) = none := by
  have := firstBad_rows h1 h8 h hv []
  rw [List.append_nil] at this
  rw [this]; rfl
theorem plain_row (r : List Int) : (rowD r).plain = true := plainL_ints r
section
variable {env e1 e2 : En} {wa wb w : EW} {wl : AW} {a b : List Int} {n i k : Nat} {ds : List D} {r : Rv} {S : FSpec} {x : Xn} {as : List Val}
theorem ev_callV (hl : EvL env wl ds e1) (hn : n ≤ ds.length) (hz : ds.length ≤ 1000) (hS : ∀ {Q' : Rv → List Val → Prop} {E' : Xn → List Val → Prop}, Q' r ((ds.take n).map Val.fz ++ [.fz (.tup (ds.drop n))]) → S ((ds.take n).map Val.fz ++ [.fz (.tup (ds.drop n))]) Q' E') (hr : ∀ i, r ≠ .sl i) : EvR env (wCallV n S wl) r e1 := ⟨fun {Q E} q => by
  have sz := sizeLine_eq
  unfold wCallV
  exact hl.go ⟨ds, e1, frzL_fz ds, hn, by omega, hS ⟨hr, q⟩⟩⟩
theorem evx_callV (hl : EvL env wl ds e1) (hn : n ≤ ds.length) (hz : ds.length ≤ 1000) (hS : ∀ {Q' : Rv → List Val → Prop} {E' : Xn → List Val → Prop}, E' x ((ds.take n).map Val.fz ++ [.fz (.tup (ds.drop n))]) → S ((ds.take n).map Val.fz ++ [.fz (.tup (ds.drop n))]) Q' E') : EvX env (wCallV n S wl) x e1 := ⟨fun {Q E} q => by
  have sz := sizeLine_eq
  unfold wCallV
  exact hl.go ⟨ds, e1, frzL_fz ds, hn, by omega, hS q⟩⟩
theorem ev_covers (h1 : 1 ≤ n) (h8 : n ≤ 8) (ra : a.length = n ∧ ∀ x ∈ a, 0 ≤ x) (rb : b.length = n ∧ ∀ x ∈ b, 0 ≤ x) (ha : Ev env wa (rowD a) e1) (hb : Ev e1 wb (rowD b) e2) : EvR env (wCall S_covers (wCons wa (wCons wb wNil))) (.fz (.bl (cov a b))) e2 := by
  have fb : firstBad .non [rowD a, rowD b] = none := fb_none (rows := [a, b]) h1 h8 (fun r hr => by
    simp only [List.mem_cons, List.not_mem_nil, or_false] at hr
    rcases hr with rfl | rfl
    · exact ra
    · exact rb) (.inl rfl)
  exact ev_call (S := S_covers) (ds := [rowD a, rowD b]) (evl_cons ha (evl_cons hb evl_nil)) (fun q => ⟨rowD a, rowD b, rfl, plain_row a, plain_row b, fun x y _ ex ey => by rw [← row_inj ex, ← row_inj ey]; exact q, fun v hv => by rw [fb] at hv; cases hv⟩) fun _ z => by cases z
theorem ev_isNB {d : D} {q : Bool} (h : Ev env w d e1) : EvR env (wOp2 gIsNotB w (wC (.bl q))) (.fz (.bl (!isB q d))) e1 := ev_op h cx fun Q' z => ⟨q, rfl, z⟩
end
theorem cov_get : ∀ {a b : List Int} {w : Nat}, a.length = w → b.length = w → ((List.range w).map fun k => decide (b.getD k 0 ≤ a.getD k 0)).all id = cov a b
  | [], [], w, ha, hb => by subst ha; rfl
  | x :: a, y :: b, w, ha, hb => by
    subst ha
    rw [List.length_cons, List.range_succ_eq_map, List.map_cons, List.map_map, List.all_cons, cov_cons, ← cov_get (a := a) (b := b) rfl (by simpa using hb)]
    rfl
  | [], y :: b, w, ha, hb => by subst ha; simp at hb
  | x :: a, [], w, ha, hb => by subst ha; simp at hb
def S__law_orders : FSpec := fun args Q _ => ∃ rows w, args = [.fz (.lst (rows.map rowD))] ∧ RwOk w rows ∧ Q (.fz (.bl true)) args
theorem mS__law_orders : MonoF S__law_orders := ⟨fun h _ ⟨r, w, a, b, q⟩ => ⟨r, w, a, b, h _ _ q⟩⟩
theorem kp__law_orders : Keeps S__law_orders [] 1 5 (w__law_orders S_covers) where
  fit := fun args Q E ⟨_, _, a, _⟩ => a ▸ fit1
  run := fun args Q E ⟨rows, w, a, R, q⟩ => by
    subst a
    unfold w__law_orders
    have sz := sizeLine_eq
    generalize hA : D.lst (rows.map rowD) = A at q ⊢
    have few := R.few
    have hit : itemsD A = some (rows.map rowD) := by rw [← hA]; rfl
    change wSeq _ _ _ [some (.fz A), none, none, none, none]
    refine seq_k fun K1 hn1 _ _ _ _ => run_forD (ev_var rfl) hit (lp_body (g := rowD) (mk := fun v (p : Option Val × Option Val × Option Val) => [some (.fz A), v, p.1, p.2.1, p.2.2]) (fun _ _ _ => rfl) rows none (none, none, none) (fun a ha K' p _ _ hn => ?_) fun o p => hn1 _ ?_)
    · obtain ⟨p2, p3, p4⟩ := p
      refine run_forD (ev_var rfl) hit (lp_body (g := rowD) (mk := fun v (p : Option Val × Option Val) => [some (.fz A), some (.fz (rowD a)), v, p.1, p.2]) (fun _ _ _ => rfl) rows p2 (p3, p4) (fun b hb K2 p _ _ hn2 => ?_) fun o p => hn (o, p.1, p.2))
      obtain ⟨p3, p4⟩ := p
      have ra := R.ok a ha
      have rb := R.ok b hb
      have w8 := R.w8
      have gt : ∀ {v : Option Val} (x : List Int) (j : Nat) (k : Nat), x.length = w → k < w → ∀ (env : En), env[j]? = some (some (.fz (rowD x))) → env[4]? = some (some (.fz (.int (k : Int)))) → EvR env (wOp2 gIx (wVar j) (wVar 4)) (.fz (.int (x.getD k 0))) env := fun x j k hl hk env h1 h2 =>
        ev_op (vx j h1) (vx 4 h2) fun Q' q => ⟨_, getD_ix (by omega), q⟩
      have lc : EvR [some (.fz A), some (.fz (rowD a)), some (.fz (rowD b)), p3, p4] (wLc (.n 4) (wRng1 (wCons (wBlt gLen (wCons (wVar 1) wNil)) wNil)) uYes (wOp2 gGe (wOp2 gIx (wVar 1) (wVar 4)) (wOp2 gIx (wVar 2) (wVar 4))) [4]) (.ow (.lst ((List.range w).map fun k => D.bl (decide (b.getD k 0 ≤ a.getD k 0))))) [some (.fz A), some (.fz (rowD a)), some (.fz (rowD b)), p3, none] :=
        lc_rngL (n := w) (f := fun k => D.bl (decide (b.getD k 0 ≤ a.getD k 0))) (evl_cons (by
          have := ev_lent (env := [some (.fz A), some (.fz (rowD a)), some (.fz (rowD b)), p3, p4]) (ds := a.map D.int) (vx 1 rfl)
          rw [List.length_map, ra.1] at this
          exact this.fz) evl_nil) (by omega) fun k hk => (ev_gei (gt (v := none) a 1 k ra.1 hk _ rfl rfl).fz (gt (v := none) b 2 k rb.1 hk _ rfl rfl).fz rfl).fz
      have al := ev_blt (g := gAll) (r := .fz (.bl (cov a b))) (evl_cons lc.ow evl_nil) fun Q' q => ⟨(List.range w).map fun k => decide (b.getD k 0 ≤ a.getD k 0), by rw [List.map_map]; rfl, by rw [cov_get ra.1 rb.1]; exact q⟩
      refine seq_k fun K3 hn3 _ _ _ _ => run_set al (hn3 _ ?_)
      change wSeq _ _ _ [some (.fz A), some (.fz (rowD a)), some (.fz (rowD b)), some (.fz (.bl (cov a b))), none]
      have cv : EvR [some (.fz A), some (.fz (rowD a)), some (.fz (rowD b)), some (.fz (.bl (cov a b))), none] (wCall S_covers (wCons (wFrz (wVar 1)) (wCons (wFrz (wVar 2)) wNil))) (.fz (.bl (cov a b))) [some (.fz A), some (.fz (rowD a)), some (.fz (rowD b)), some (.fz (.bl (cov a b))), none] := ev_covers R.w1 R.w8 ra rb (fx 1 rfl) (fx 2 rfl)
      cases hc : cov a b with
      | true =>
        rw [hc] at cv
        refine sk_f (evt_and_t (evt_tru (vx 3 rfl) rfl) (evt_B (ev_isNB cv.fz))) ?_
        exact run_if_f (evt_and_f (evt_not (k := true) (evt_tru (vx 3 rfl) rfl))) (hn2 (_, _))
      | false =>
        rw [hc] at cv
        refine sk_f (evt_and_f (evt_tru (vx 3 rfl) rfl)) ?_
        exact run_if_f (evt_and_t (evt_not (k := false) (evt_tru (vx 3 rfl) rfl)) (evt_B (ev_isNB cv.fz))) (hn2 (_, _))
    · obtain ⟨p1, p2, p3⟩ := p
      refine run_ret (d := .bl true) ev_c ?_
      exact ⟨_, rfl, q⟩
section
variable {env e1 : En} {wl : AW} {f : List Int} {rs : List (List Int)} {w : Nat}
theorem ev_joined (R : RwOk w (f :: rs)) (hl : EvL env wl ((f :: rs).map rowD) e1) : EvR env (wCallV 1 S_joined wl) (.fz (rowD (colJ (f :: rs) w))) e1 := by
  have fb : firstBad .non (rowD f :: rs.map rowD) = none := fb_none (rows := f :: rs) R.w1 R.w8 R.ok (.inl rfl)
  have few := R.few
  rw [List.length_cons] at few
  have hf := R.ok f List.mem_cons_self
  exact ev_callV hl (by rw [List.length_map, List.length_cons]; omega) (by rw [List.length_map, List.length_cons]; omega) (fun q => ⟨rowD f, rs.map rowD, rfl, plain_row f, plainL_rows rs, by rw [List.length_map]; omega, fun _ r rs' e1 e2 _ _ _ => by
    rw [← row_inj e1, ← rows_inj e2, hf.1]; exact q, fun v hv => by rw [fb] at hv; cases hv⟩) fun _ z => by cases z
theorem ev_shared (R : RwOk w (f :: rs)) (hl : EvL env wl ((f :: rs).map rowD) e1) : EvR env (wCallV 1 S_shared wl) (.fz (rowD (colS (f :: rs) w))) e1 := by
  have fb : firstBad .non (rowD f :: rs.map rowD) = none := fb_none (rows := f :: rs) R.w1 R.w8 R.ok (.inl rfl)
  have few := R.few
  rw [List.length_cons] at few
  have hf := R.ok f List.mem_cons_self
  exact ev_callV hl (by rw [List.length_map, List.length_cons]; omega) (by rw [List.length_map, List.length_cons]; omega) (fun q => ⟨rowD f, rs.map rowD, rfl, plain_row f, plainL_rows rs, by rw [List.length_map]; omega, fun _ r rs' e1 e2 _ _ _ => by
    rw [← row_inj e1, ← rows_inj e2, hf.1]; exact q, fun v hv => by rw [fb] at hv; cases hv⟩) fun _ z => by cases z
end
def S__law_told : FSpec := fun args Q _ => ∃ (a b c d : List Int) (w n : Nat) (l : Bool), args = [.fz (.lst [rowD a, rowD b, rowD c, rowD d]), .fz (.int (n : Int)), .fz (.bl l)] ∧ RwOk w [a, b, c, d] ∧ 1 ≤ n ∧ n ≤ 4 ∧ Q (.fz (rowD (if l then colS ([a, b, c, d].take n) w else colJ ([a, b, c, d].take n) w))) args
theorem mS__law_told : MonoF S__law_told := ⟨fun h _ ⟨a, b, c, d, w, n, l, e, r, h1, h4, q⟩ => ⟨a, b, c, d, w, n, l, e, r, h1, h4, h _ _ q⟩⟩
theorem RwOk.sub {w : Nat} {rows rs : List (List Int)} (R : RwOk w rows) (h : ∀ r ∈ rs, r ∈ rows) (hl : rs.length ≤ 10) : RwOk w rs := ⟨R.w1, R.w8, hl, fun r hr => R.ok r (h r hr)⟩
theorem kp__law_told : Keeps S__law_told [] 3 3 (w__law_told S_shared S_joined) where
  fit := fun args Q E ⟨_, _, _, _, _, _, _, a, _⟩ => a ▸ fit3
  run := fun args Q E ⟨a, b, c, d, w, n, l, e, R, h1, h4, q⟩ => by
    subst e
    unfold w__law_told
    change wSeq _ _ _ [some (.fz (.lst [rowD a, rowD b, rowD c, rowD d])), some (.fz (.int (n : Int))), some (.fz (.bl l))]
    generalize hA : D.lst [rowD a, rowD b, rowD c, rowD d] = A at q ⊢
    have p0 : ∀ (j : Nat) (x : D), ([rowD a, rowD b, rowD c, rowD d] : List D)[j]? = some x → Ev [some (.fz A), some (.fz (.int (n : Int))), some (.fz (.bl l))] (wFrz (wOp2 gIx (wVar 0) (wC (.int (j : Int))))) x [some (.fz A), some (.fz (.int (n : Int))), some (.fz (.bl l))] := fun j x hx => by
      subst hA
      exact (ev_frz (ev_ixl j (vx 0 rfl) cx hx).fz).fz
    have eq : ∀ k : Nat, EvT [some (.fz A), some (.fz (.int (n : Int))), some (.fz (.bl l))] (wB (wOp2 gEq (wVar 1) (wC (.int (k : Int))))) (decide (n = k)) [some (.fz A), some (.fz (.int (n : Int))), some (.fz (.bl l))] := fun k => evt_B (ev_eqi' (vx 1 rfl) cx (by rw [Bool.eq_iff_iff, decide_eq_true_eq, decide_eq_true_eq]; omega))
    have tl : EvT [some (.fz A), some (.fz (.int (n : Int))), some (.fz (.bl l))] (wTru (wVar 2)) l [some (.fz A), some (.fz (.int (n : Int))), some (.fz (.bl l))] := evt_tru (vx 2 rfl) rfl
    have s1 := R.sub (rs := [a]) (by simp) (Nat.le_of_ble_eq_true rfl)
    have s2 := R.sub (rs := [a, b]) (by simp) (Nat.le_of_ble_eq_true rfl)
    have s3 := R.sub (rs := [a, b, c]) (by simp) (Nat.le_of_ble_eq_true rfl)
    have l1 := evl_cons (p0 0 _ rfl) evl_nil
    have l2 := evl_cons (p0 0 _ rfl) (evl_cons (p0 1 _ rfl) evl_nil)
    have l3 := evl_cons (p0 0 _ rfl) (evl_cons (p0 1 _ rfl) (evl_cons (p0 2 _ rfl) evl_nil))
    have l4 := evl_cons (p0 0 _ rfl) (evl_cons (p0 1 _ rfl) (evl_cons (p0 2 _ rfl) (evl_cons (p0 3 _ rfl) evl_nil)))
    have cases4 : n = 1 ∨ n = 2 ∨ n = 3 ∨ n = 4 := by omega
    cases l with
    | true =>
      have t2 : ∀ k : Nat, EvT _ (wtAnd (wTru (wVar 2)) (wB (wOp2 gEq (wVar 1) (wC (.int (k : Int)))))) (decide (n = k)) _ := fun k => evt_and_t tl (eq k)
      rcases cases4 with rfl | rfl | rfl | rfl
      · exact sk_t (t2 1) fun K' hr _ => run_ret (ev_shared s1 l1) (by rw [hr]; exact ⟨_, rfl, q⟩)
      · refine sk_f (t2 1) ?_
        exact sk_t (t2 2) fun K' hr _ => run_ret (ev_shared s2 l2) (by rw [hr]; exact ⟨_, rfl, q⟩)
      · refine sk_f (t2 1) (sk_f (t2 2) ?_)
        exact sk_t (t2 3) fun K' hr _ => run_ret (ev_shared s3 l3) (by rw [hr]; exact ⟨_, rfl, q⟩)
      · refine sk_f (t2 1) (sk_f (t2 2) (sk_f (t2 3) ?_))
        exact sk_t tl fun K' hr _ => run_ret (ev_shared R l4) (by rw [hr]; exact ⟨_, rfl, q⟩)
    | false =>
      have f2 : ∀ {v : TW}, EvT _ (wtAnd (wTru (wVar 2)) v) false _ := evt_and_f tl
      refine sk_f f2 (sk_f f2 (sk_f f2 (sk_f tl ?_)))
      rcases cases4 with rfl | rfl | rfl | rfl
      · exact sk_t (eq 1) fun K' hr _ => run_ret (ev_joined s1 l1) (by rw [hr]; exact ⟨_, rfl, q⟩)
      · refine sk_f (eq 1) ?_
        exact sk_t (eq 2) fun K' hr _ => run_ret (ev_joined s2 l2) (by rw [hr]; exact ⟨_, rfl, q⟩)
      · refine sk_f (eq 1) (sk_f (eq 2) ?_)
        exact sk_t (eq 3) fun K' hr _ => run_ret (ev_joined s3 l3) (by rw [hr]; exact ⟨_, rfl, q⟩)
      · refine sk_f (eq 1) (sk_f (eq 2) (sk_f (eq 3) ?_))
        exact run_ret (ev_joined R l4) ⟨_, rfl, q⟩
end LV
namespace LV
open PySem PySem.Spec L2
section
variable {env e1 e2 : En} {wa wb w : EW} {wl : AW} {a b : List Int} {n i k : Nat} {ds : List D} {d : D}
/-- a comprehension over a list of one's own -/
theorem lc_mapS {α : Type} {g f : α → D} {xs : List α} (h : env[k]? = some (some (.ow (.lst (xs.map g)))))
    (he : ∀ x ∈ xs, Ev (((env.set k (some (.fz (.lst (xs.map g))))).set i none).set i (some (.fz (g x)))) w (f x) (((env.set k (some (.fz (.lst (xs.map g))))).set i none).set i (some (.fz (g x))))) (hl : xs.length < 1000) :
    EvR env (wLc (.n i) (wIt [] (wVar k)) uYes w [i]) (.ow (.lst (xs.map f))) ((env.set k (some (.fz (.lst (xs.map g))))).set i none) := ⟨fun {Q E} q => by
  have sz := sizeLine_eq
  unfold wLc wIt
  simp only [wVar, h]
  show itR [] (.sl k) env _
  unfold itR
  dsimp only
  rw [if_neg List.not_mem_nil]
  refine ⟨.lst (xs.map g), env.set k (some (.fz (.lst (xs.map g)))), xs.map g, by simp only [frz1, h]; rfl, rfl, ?_⟩
  refine cw_mapL True.intro xs [] (fun x hx => ⟨_, rfl, ?_, he x hx⟩) (by rw [List.length_nil]; omega) q
  simp only [wipeE, List.set_set]⟩
theorem ev_tuple (h : Ev env w (.lst ds) e1) : EvR env (wBlt gTuple (wCons w wNil)) (.fz (.tup ds)) e1 := ev_blt (evl_cons h evl_nil) fun Q' q => q
theorem ev_neRow (ha : Ev env wa (rowD a) e1) (hb : Ev e1 wb (rowD a) e2) : EvR env (wOp2 gNe wa wb) (.fz (.bl false)) e2 := ev_op ha hb fun Q' q => ⟨okE_row a, okE_row a, by rw [eqv_row, decide_eq_true rfl]; exact q⟩
theorem ev_isRow (ha : Ev env wa (rowD a) e1) (hb : Ev e1 wb (.int (n : Int)) e2) (hl : a.length = n) (hn : n ≤ 1000) (h0 : ∀ x ∈ a, 0 ≤ x) : EvR env (wCall S__law_is_row (wCons wa (wCons wb wNil))) (.fz (.bl true)) e2 :=
  ev_call (S := S__law_is_row) (ds := [rowD a, .int (n : Int)]) (evl_cons ha (evl_cons hb evl_nil)) (fun q => ⟨a, n, rfl, hl, hn, h0, q⟩) fun _ z => by cases z
theorem ev_maxL {ns : List Int} {m : Int} (h : Ev env w (.lst (ns.map D.int)) e1) (hm : m ∈ ns) (hx : ∀ y ∈ ns, y ≤ m) : EvR env (wBlt gMaxL (wCons w wNil)) (.fz (.int m)) e1 := ev_blt (evl_cons h evl_nil) fun Q' q => ⟨ns, m, rfl, hm, hx, q⟩
theorem ev_minL {ns : List Int} {m : Int} (h : Ev env w (.lst (ns.map D.int)) e1) (hm : m ∈ ns) (hx : ∀ y ∈ ns, m ≤ y) : EvR env (wBlt gMinL (wCons w wNil)) (.fz (.int m)) e1 := ev_blt (evl_cons h evl_nil) fun Q' q => ⟨ns, m, rfl, hm, hx, q⟩
theorem run_forR2 {tg : Tg} {body : SW} {K : Ks} {xs : List D} {i j : Nat} (el : EvL env wl [.int (i : Int), .int (j : Int)] e1) (hi : i ≤ 1000) (hj : j ≤ 1000) (hx : rngD (i : Int) ((j : Int) - (i : Int)).toNat = xs) (q : loopW tg body yesK K xs e1) : wFor tg (wRng2 wl) body K env := by
  change wl env (fun rs e => ∃ i j, lookL e rs = some [.int i, .int j] ∧ okR i ∧ okR j ∧ loopW tg body yesK K (rngD i (j - i).toNat) e) _
  refine el.go ⟨(i : Int), (j : Int), rfl, by unfold okR; omega, by unfold okR; omega, ?_⟩
  rw [hx]
  exact q
end
theorem colJ_len (rows : List (List Int)) (w : Nat) : (colJ rows w).length = w := by unfold colJ; rw [List.length_map, List.length_range]
theorem colS_len (rows : List (List Int)) (w : Nat) : (colS rows w).length = w := by unfold colS; rw [List.length_map, List.length_range]
theorem RwOk.get {w : Nat} {rows : List (List Int)} (R : RwOk w rows) {r : List Int} (hr : r ∈ rows) {k : Nat} (hk : k < w) : 0 ≤ r.getD k 0 := by
  obtain ⟨h1, h2⟩ := R.ok r hr
  rw [List.getD_eq_getElem?_getD, List.getElem?_eq_getElem (by omega)]
  exact h2 _ (List.getElem_mem _)
theorem RwOk.colJ {w : Nat} {rows : List (List Int)} (R : RwOk w rows) (hn : rows ≠ []) : ∀ x ∈ colJ rows w, 0 ≤ x := fun x hx => by
  unfold LV.colJ at hx
  obtain ⟨k, hk, rfl⟩ := List.mem_map.mp hx
  have := mxL_mem (l := rows.map fun r => r.getD k 0) (by simpa using hn)
  obtain ⟨r, hr, e⟩ := List.mem_map.mp this
  rw [← e]
  exact R.get hr (List.mem_range.mp hk)
theorem RwOk.colS {w : Nat} {rows : List (List Int)} (R : RwOk w rows) (hn : rows ≠ []) : ∀ x ∈ colS rows w, 0 ≤ x := fun x hx => by
  unfold LV.colS at hx
  obtain ⟨k, hk, rfl⟩ := List.mem_map.mp hx
  have := mnL_mem (l := rows.map fun r => r.getD k 0) (by simpa using hn)
  obtain ⟨r, hr, e⟩ := List.mem_map.mp this
  rw [← e]
  exact R.get hr (List.mem_range.mp hk)
/-- a column -/
def colD (rows : List (List Int)) (k : Nat) : D := .lst ((rows.map fun r => r.getD k 0).map D.int)
theorem jD (rows : List (List Int)) (w : Nat) : D.tup ((List.range w).map fun k => D.int (mxL (rows.map fun r => r.getD k 0))) = rowD (colJ rows w) := by
  unfold rowD colJ; rw [List.map_map]; rfl
theorem sD (rows : List (List Int)) (w : Nat) : D.tup ((List.range w).map fun k => D.int (mnL (rows.map fun r => r.getD k 0))) = rowD (colS rows w) := by
  unfold rowD colS; rw [List.map_map]; rfl
abbrev E8j (A : D) (w : Nat) (v2 v3 v4 v5 v6 v7 : Option Val) : En := [some (.fz A), some (.fz (.int (w : Int))), v2, v3, v4, v5, v6, v7]
theorem take_ne {rows : List (List Int)} {n : Nat} (hr : rows ≠ []) (hn : 1 ≤ n) : rows.take n ≠ [] := by
  cases rows with
  | nil => exact absurd rfl hr
  | cons a r => obtain ⟨m, rfl⟩ : ∃ m, n = m + 1 := ⟨n - 1, by omega⟩; simp
def S__law_joins : FSpec := fun args Q _ => ∃ (a b c d : List Int) (w : Nat), args = [.fz (.lst [rowD a, rowD b, rowD c, rowD d])] ∧ RwOk w [a, b, c, d] ∧ Q (.fz (.bl true)) args
theorem mS__law_joins : MonoF S__law_joins := ⟨fun h _ ⟨a, b, c, d, w, e, r, q⟩ => ⟨a, b, c, d, w, e, r, h _ _ q⟩⟩
theorem kp__law_joins : Keeps S__law_joins [] 1 8 (w__law_joins S__law_told S__law_is_row S_check_row S_size S__law_is_integer) where
  fit := fun args Q E ⟨_, _, _, _, _, a, _⟩ => a ▸ fit1
  run := fun args Q E ⟨a, b, c, d, w, e, R, q⟩ => by
    subst e
    unfold w__law_joins
    have sz := sizeLine_eq
    have w8 := R.w8
    have w1 := R.w1
    obtain ⟨rows, hrows⟩ : ∃ rows, [a, b, c, d] = rows := ⟨_, rfl⟩
    have hA0 : D.lst [rowD a, rowD b, rowD c, rowD d] = .lst (rows.map rowD) := by rw [← hrows]; rfl
    have rne : rows ≠ [] := by rw [← hrows]; exact List.cons_ne_nil _ _
    have r4 : rows.length = 4 := by rw [← hrows]; rfl
    generalize hA : D.lst [rowD a, rowD b, rowD c, rowD d] = A at q hA0 ⊢
    change wSeq _ _ _ [some (.fz A), none, none, none, none, none, none, none]
    have la : (rowD a) = .tup (a.map D.int) := rfl
    have ha := R.ok a List.mem_cons_self
    have e1 : EvR [some (.fz A), none, none, none, none, none, none, none] (wBlt gLen (wCons (wOp2 gIx (wVar 0) (wC (.int 0))) wNil)) (.fz (.int (w : Int))) [some (.fz A), none, none, none, none, none, none, none] := by
      subst hA
      have := ev_lent (env := [some (.fz (.lst [rowD a, rowD b, rowD c, rowD d])), none, none, none, none, none, none, none]) (ds := a.map D.int) (ev_ixl 0 (ds := [rowD a, rowD b, rowD c, rowD d]) (vx 0 rfl) cx rfl).fz
      rw [List.length_map, ha.1] at this
      exact this
    refine seq_k fun K1 hn1 _ _ _ _ => run_set (d := .int (w : Int)) e1 (hn1 _ ?_)
    change wSeq _ _ _ (E8j A w none none none none none none)
    have tk : ∀ n, RwOk w (rows.take n) := fun n => R.sub (fun r hr => by rw [hrows]; exact List.mem_of_mem_take hr) (by rw [List.length_take]; omega)
    refine seq_k fun K2 hn2 _ _ _ _ => run_forR2 (i := 1) (j := 5) (xs := (List.range 4).map fun k : Nat => D.int ((k + 1 : Nat) : Int)) (evl_cons cx (evl_cons cx evl_nil)) (by decide) (by decide) rfl (lp_body (g := fun k : Nat => D.int ((k + 1 : Nat) : Int)) (mk := fun v (p : Option Val × Option Val) => E8j A w v p.1 p.2 none none none) (fun _ _ _ => rfl) (List.range 4) none (none, none) (fun n0 hn0 K' p _ _ hn => ?_) fun o p => hn2 _ ?_)
    · obtain ⟨p3, p4⟩ := p
      have hn0 := List.mem_range.mp hn0
      generalize hn' : n0 + 1 = n at hn ⊢
      have n1 : 1 ≤ n := by omega
      have n4 : n ≤ 4 := by omega
      have T := tk n
      have tne := take_ne rne n1
      generalize hv : (some (.fz (.int (n : Int))) : Option Val) = v2 at hn ⊢
      have cols : EvR (E8j A w v2 p3 p4 none none none) (wLc (.n 5) (wRng1 (wCons (wVar 1) wNil)) uYes (wLc (.n 6) (wIt [] (wSl (wVar 0) wNoP (wPt (wVar 2)))) uYes (wOp2 gIx (wVar 6) (wVar 5)) [6]) [5]) (.ow (.lst ((List.range w).map (colD (rows.take n))))) (E8j A w v2 p3 p4 none none none) :=
        lc_rngL (n := w) (f := colD (rows.take n)) (evl_cons (vx 1 rfl) evl_nil) (by omega) fun k hk => by
          have sl : EvR (E8j A w v2 p3 p4 (some (.fz (.int (k : Int)))) none none) (wSl (wVar 0) wNoP (wPt (wVar 2))) (.ow (.lst ((rows.take n).map rowD))) (E8j A w v2 p3 p4 (some (.fz (.int (k : Int)))) none none) := by
            have := ev_slLR (env := E8j A w v2 p3 p4 (some (.fz (.int (k : Int)))) none none) (w := wVar 0) (wa := wVar 2) (ds := rows.map rowD) (i := (n : Int)) (vx 0 (by rw [← hA0]; rfl)) (ev_var (by rw [← hv]; rfl))
            rw [cut_take, ← List.map_take] at this
            exact this
          have := lc_mapW (i := 6) (pn := []) (w := wOp2 gIx (wVar 6) (wVar 5)) (g := rowD) (f := fun r : List Int => D.int (r.getD k 0)) (xs := rows.take n) sl (fun r hr => (ev_op (vx 6 rfl) (vx 5 rfl) fun Q' q => ⟨_, getD_ix (by rw [(T.ok r hr).1]; exact hk), q⟩).fz) (by rw [List.length_take]; omega)
          have e := this.ow
          rw [show (O.lst ((rows.take n).map fun r => D.int (r.getD k 0))).d = colD (rows.take n) k by unfold colD; rw [List.map_map]; rfl] at e
          exact e
      refine seq_k fun K3 hn3 _ _ _ _ => run_setO cols (hn3 _ ?_)
      change wSeq _ _ _ (E8j A w v2 (some (.ow (.lst ((List.range w).map (colD (rows.take n)))))) p4 none none none)
      have told : ∀ (l : Bool) (v3 v4 : Option Val), EvR (E8j A w v2 v3 v4 none none none) (wCall S__law_told (wCons (wFrz (wVar 0)) (wCons (wFrz (wVar 2)) (wCons (wC (.bl l)) wNil)))) (.fz (rowD (if l then colS (rows.take n) w else colJ (rows.take n) w))) (E8j A w v2 v3 v4 none none none) := fun l v3 v4 =>
        ev_call (S := S__law_told) (ds := [A, .int (n : Int), .bl l]) (evl_cons (fx 0 rfl) (evl_cons (fx 2 (by rw [← hv]; rfl)) (evl_cons cx evl_nil))) (fun q => ⟨a, b, c, d, w, n, l, by rw [hA]; rfl, R, n1, n4, by rw [hrows]; exact q⟩) fun _ z => by cases z
      refine seq_k fun K4 hn4 _ _ _ _ => run_set (told false _ _) (hn4 _ ?_)
      change wSeq _ _ _ (E8j A w v2 (some (.ow (.lst ((List.range w).map (colD (rows.take n)))))) (some (.fz (rowD (colJ (rows.take n) w)))) none none none)
      have mx : EvR (E8j A w v2 (some (.ow (.lst ((List.range w).map (colD (rows.take n)))))) (some (.fz (rowD (colJ (rows.take n) w)))) none none none) (wLc (.n 7) (wIt [] (wVar 3)) uYes (wBlt gMaxL (wCons (wVar 7) wNil)) [7]) (.ow (.lst ((List.range w).map fun k => D.int (mxL ((rows.take n).map fun r => r.getD k 0))))) (E8j A w v2 (some (.fz (.lst ((List.range w).map (colD (rows.take n)))))) (some (.fz (rowD (colJ (rows.take n) w)))) none none none) :=
        lc_mapS (k := 3) (i := 7) (g := colD (rows.take n)) (xs := List.range w) rfl (fun k hk => (ev_maxL (ns := (rows.take n).map fun r => r.getD k 0) (vx 7 rfl) (mxL_mem (by simpa using tne)) fun y hy => mxL_ge hy).fz) (by rw [List.length_range]; omega)
      have tj := ev_tuple mx.ow
      rw [jD] at tj
      refine sk_f (evt_or_f (evt_not (k := true) (evt_trub (ev_isRow (fx 4 rfl) (fx 1 rfl) (colJ_len _ _) (by omega) (T.colJ tne)))) (evt_B (ev_neRow (vx 4 rfl) tj.fz))) ?_
      refine seq_k fun K5 hn5 _ _ _ _ => run_set (told true _ _) (hn5 _ ?_)
      change wIf _ _ _ _ (E8j A w v2 (some (.fz (.lst ((List.range w).map (colD (rows.take n)))))) (some (.fz (rowD (colS (rows.take n) w)))) none none none)
      have mn : EvR (E8j A w v2 (some (.fz (.lst ((List.range w).map (colD (rows.take n)))))) (some (.fz (rowD (colS (rows.take n) w)))) none none none) (wLc (.n 7) (wIt [] (wVar 3)) uYes (wBlt gMinL (wCons (wVar 7) wNil)) [7]) (.ow (.lst ((List.range w).map fun k => D.int (mnL ((rows.take n).map fun r => r.getD k 0))))) (E8j A w v2 (some (.fz (.lst ((List.range w).map (colD (rows.take n)))))) (some (.fz (rowD (colS (rows.take n) w)))) none none none) :=
        lc_mapL (i := 7) (pn := []) (g := colD (rows.take n)) (xs := List.range w) (ev_var rfl) rfl (fun k hk => (ev_minL (ns := (rows.take n).map fun r => r.getD k 0) (vx 7 rfl) (mnL_mem (by simpa using tne)) fun y hy => mnL_le hy).fz) (by rw [List.length_range]; omega)
      have ts := ev_tuple mn.ow
      rw [sD] at ts
      exact run_if_f (evt_or_f (evt_not (k := true) (evt_trub (ev_isRow (fx 4 rfl) (fx 1 rfl) (colS_len _ _) (by omega) (T.colS tne)))) (evt_B (ev_neRow (vx 4 rfl) ts.fz))) (hn (_, _))
    · obtain ⟨p3, p4⟩ := p
      refine seq_k fun K6 hn6 _ _ _ _ => run_forD (d := A) (ev_var rfl) (xs := rows.map rowD) (by rw [hA0]; rfl) (lp_body (g := rowD) (mk := fun v (p : Unit) => E8j A w o p3 p4 none v none) (fun _ _ _ => rfl) rows none () (fun r hr K' p _ _ hn => ?_) fun o p => hn6 _ ?_)
      · have hr' : r ∈ [a, b, c, d] := by rw [hrows]; exact hr
        obtain ⟨l1, l2⟩ := R.ok r hr'
        have rk : ∀ {v : D}, v = .non ∨ v = .int (w : Int) → isRowD (rowD r) v = true := fun hv => row_ok l1 w1 w8 l2 hv
        have siz : ∀ {env : En}, env[6]? = some (some (.fz (rowD r))) → EvR env (wCall S_size (wCons (wFrz (wVar 6)) wNil)) (.fz (.int r.sum)) env := fun h =>
          ev_call (S := S_size) (ds := [rowD r]) (evl_cons (fx 6 h) evl_nil) (fun q => ⟨rowD r, rfl, plain_row r, fun r' _ e => by rw [← row_inj e]; exact q, fun h => by rw [rk (.inl rfl)] at h; cases h⟩) fun _ z => by cases z
        have isi : EvR (E8j A w o p3 p4 none (some (.fz (rowD r))) none) (wCall S__law_is_integer (wCons (wFrz (wCall S_size (wCons (wFrz (wVar 6)) wNil))) wNil)) (.fz (.bl true)) (E8j A w o p3 p4 none (some (.fz (rowD r))) none) :=
          ev_call (S := S__law_is_integer) (ds := [.int r.sum]) (evl_cons (ev_frz (siz rfl).fz).fz evl_nil) (fun q => ⟨_, rfl, rfl, q⟩) fun _ z => by cases z
        have sm : EvR (E8j A w o p3 p4 none (some (.fz (rowD r))) none) (wBlt gSumT (wCons (wVar 6) wNil)) (.fz (.int r.sum)) (E8j A w o p3 p4 none (some (.fz (rowD r))) none) := ev_blt (evl_cons (vx 6 rfl) evl_nil) fun Q' q => ⟨r, rfl, q⟩
        have ck : EvR (E8j A w o p3 p4 none (some (.fz (rowD r))) none) (wCall S_check_row (wCons (wFrz (wVar 6)) (wCons (wFrz (wVar 1)) wNil))) (.fz .non) (E8j A w o p3 p4 none (some (.fz (rowD r))) none) :=
          ev_call (S := S_check_row) (ds := [rowD r, .int (w : Int)]) (evl_cons (fx 6 rfl) (evl_cons (fx 1 rfl) evl_nil)) (fun q => ⟨rowD r, .int (w : Int), rfl, plain_row r, .inr ⟨_, rfl⟩, fun _ => q, fun h => by rw [rk (.inr rfl)] at h; cases h⟩) fun _ z => by cases z
        have nn : EvR (E8j A w o p3 p4 none (some (.fz (rowD r))) none) (wOp2 gIsNotN (wCall S_check_row (wCons (wFrz (wVar 6)) (wCons (wFrz (wVar 1)) wNil))) (wC .non)) (.fz (.bl false)) (E8j A w o p3 p4 none (some (.fz (rowD r))) none) := ev_op ck.fz cx fun Q' q => ⟨rfl, q⟩
        exact run_if_f (evt_or_f (evt_not (k := true) (evt_trub isi)) (evt_or_f (evt_B (ev_nei (siz rfl).fz sm.fz)) (evt_B nn))) (hn ())
      · refine run_ret (d := .bl true) ev_c ?_
        exact ⟨_, rfl, q⟩
end LV
namespace LV
open PySem PySem.Spec L2
abbrev E10 (A : D) (v1 v2 v3 v4 v5 v6 v7 v8 v9 : Option Val) : En := [some (.fz A), v1, v2, v3, v4, v5, v6, v7, v8, v9]
theorem tup_row {r : List Int} (g : Int → Int) : D.tup (r.map fun x => D.int (g x)) = rowD (r.map g) := by
  unfold rowD; rw [List.map_map]; rfl
theorem ev_exA {env : En} {i : Nat} {a : Addr} {Cn f : Str} {ks : List Str} {vs : List D} {d : D} (h : env[i]? = some (some (.ex a Cn ks vs))) (hk : kvD ks vs f = some d) : EvR env (wExA i Cn f) (.fz d) env := ⟨fun {Q E} q => by
  simp only [wExA, h]
  exact ⟨trivial, d, hk, q⟩⟩
theorem cols_ev {A : D} {rows : List (List Int)} {m : List Int} {w j : Nat} {v1 v2 v3 v4 v7 v8 v9 : Option Val} (R : RwOk w (rows ++ [m])) (hA : A = .lst (rows.map rowD)) (hj : ∀ v5 v6, (E10 A v1 v2 v3 v4 v5 v6 v7 v8 v9)[j]? = some (some (.fz (rowD m)))) :
    EvR (E10 A v1 v2 v3 v4 none none v7 v8 v9) (wLc (.n 5) (wRng1 (wCons (wBlt gLen (wCons (wVar j) wNil)) wNil)) uYes (wLc (.n 6) (wIt [] (wOp2 gAdd (wVar 0) (wLst (wCons (wVar j) wNil)))) uYes (wOp2 gIx (wVar 6) (wVar 5)) [6]) [5]) (.ow (.lst ((List.range w).map (colD (rows ++ [m]))))) (E10 A v1 v2 v3 v4 none none v7 v8 v9) := by
  have w8 := R.w8
  have few := R.few
  rw [List.length_append, List.length_singleton] at few
  have hm := R.ok m (List.mem_append.mpr (.inr List.mem_cons_self))
  have ln : EvR (E10 A v1 v2 v3 v4 none none v7 v8 v9) (wBlt gLen (wCons (wVar j) wNil)) (.fz (.int (w : Int))) (E10 A v1 v2 v3 v4 none none v7 v8 v9) := by
    have := ev_lent (ds := m.map D.int) (vx j (hj none none))
    rw [List.length_map, hm.1] at this
    exact this
  refine lc_rngL (n := w) (f := colD (rows ++ [m])) (evl_cons ln.fz evl_nil) (by omega) fun k hk => ?_
  have sl : EvR (E10 A v1 v2 v3 v4 (some (.fz (.int (k : Int)))) none v7 v8 v9) (wOp2 gAdd (wVar 0) (wLst (wCons (wVar j) wNil))) (.ow (.lst ((rows ++ [m]).map rowD))) (E10 A v1 v2 v3 v4 (some (.fz (.int (k : Int)))) none v7 v8 v9) := by
    have h0 : Ev (E10 A v1 v2 v3 v4 (some (.fz (.int (k : Int)))) none v7 v8 v9) (wVar 0) (.lst (rows.map rowD)) (E10 A v1 v2 v3 v4 (some (.fz (.int (k : Int)))) none v7 v8 v9) := vx 0 (by rw [← hA]; rfl)
    have := ev_addL h0 (ev_lst (ds := [rowD m]) (evl_cons (vx j (hj _ none)) evl_nil) (by have := sizeLine_eq; show 1 ≤ _; omega)).ow (by rw [List.length_map]; show _ + 1 ≤ _; omega)
    rw [List.map_append]
    exact this
  have := lc_mapW (i := 6) (pn := []) (w := wOp2 gIx (wVar 6) (wVar 5)) (g := rowD) (f := fun r : List Int => D.int (r.getD k 0)) (xs := rows ++ [m]) sl (fun r hr => (ev_op (vx 6 rfl) (vx 5 rfl) fun Q' q => ⟨_, getD_ix (by rw [(R.ok r hr).1]; exact hk), q⟩).fz) (by rw [List.length_append]; show _ + 1 < _; omega)
  have e := this.ow
  rw [show (O.lst ((rows ++ [m]).map fun r => D.int (r.getD k 0))).d = colD (rows ++ [m]) k by unfold colD; rw [List.map_map]; rfl] at e
  exact e
theorem mx_in {rs qs : List (List Int)} {k : Nat} (hn : rs ≠ []) (h : ∀ r, r ∈ rs → r ∈ qs) : mxL (rs.map fun r => r.getD k 0) ∈ qs.map fun r => r.getD k 0 := by
  obtain ⟨r, hr, e⟩ := List.mem_map.mp (mxL_mem (l := rs.map fun r => r.getD k 0) (by simpa using hn))
  exact List.mem_map.mpr ⟨r, h r hr, e⟩
theorem mx_up {rs qs : List (List Int)} {k : Nat} (h : ∀ r, r ∈ qs → r ∈ rs) : ∀ y ∈ (qs.map fun r => r.getD k 0), y ≤ mxL (rs.map fun r => r.getD k 0) := fun y hy => by
  obtain ⟨r, hr, e⟩ := List.mem_map.mp hy
  exact mxL_ge (List.mem_map.mpr ⟨r, h r hr, e⟩)
theorem mn_in {rs qs : List (List Int)} {k : Nat} (hn : rs ≠ []) (h : ∀ r, r ∈ rs → r ∈ qs) : mnL (rs.map fun r => r.getD k 0) ∈ qs.map fun r => r.getD k 0 := by
  obtain ⟨r, hr, e⟩ := List.mem_map.mp (mnL_mem (l := rs.map fun r => r.getD k 0) (by simpa using hn))
  exact List.mem_map.mpr ⟨r, h r hr, e⟩
theorem mn_dn {rs qs : List (List Int)} {k : Nat} (h : ∀ r, r ∈ qs → r ∈ rs) : ∀ y ∈ (qs.map fun r => r.getD k 0), mnL (rs.map fun r => r.getD k 0) ≤ y := fun y hy => by
  obtain ⟨r, hr, e⟩ := List.mem_map.mp hy
  exact mnL_le (List.mem_map.mpr ⟨r, h r hr, e⟩)
theorem mx_ev {A : D} {rs qs : List (List Int)} {w : Nat} {v1 v2 v3 v5 v6 v7 v9 : Option Val} (hw : w < 1000) (hn : rs ≠ []) (h : ∀ r, r ∈ rs ↔ r ∈ qs) :
    EvR (E10 A v1 v2 v3 (some (.ow (.lst ((List.range w).map (colD qs))))) v5 v6 v7 none v9) (wBlt gTuple (wCons (wLc (.n 8) (wIt [] (wVar 4)) uYes (wBlt gMaxL (wCons (wVar 8) wNil)) [8]) wNil)) (.fz (rowD (colJ rs w))) (E10 A v1 v2 v3 (some (.fz (.lst ((List.range w).map (colD qs))))) v5 v6 v7 none v9) := by
  have mx : EvR (E10 A v1 v2 v3 (some (.ow (.lst ((List.range w).map (colD qs))))) v5 v6 v7 none v9) (wLc (.n 8) (wIt [] (wVar 4)) uYes (wBlt gMaxL (wCons (wVar 8) wNil)) [8]) (.ow (.lst ((List.range w).map fun k => D.int (mxL (rs.map fun r => r.getD k 0))))) (E10 A v1 v2 v3 (some (.fz (.lst ((List.range w).map (colD qs))))) v5 v6 v7 none v9) :=
    lc_mapS (k := 4) (i := 8) (g := colD qs) (f := fun k => D.int (mxL (rs.map fun r => r.getD k 0))) (xs := List.range w) rfl (fun k hk => (ev_maxL (ns := qs.map fun r => r.getD k 0) (vx 8 rfl) (mx_in hn fun r z => (h r).mp z) (mx_up fun r z => (h r).mpr z)).fz) (by rw [List.length_range]; omega)
  have tj := ev_tuple mx.ow
  rw [jD] at tj
  exact tj
theorem mn_ev {A : D} {rs qs : List (List Int)} {w : Nat} {v1 v2 v3 v5 v6 v7 v9 : Option Val} (hw : w < 1000) (hn : rs ≠ []) (h : ∀ r, r ∈ rs ↔ r ∈ qs) :
    EvR (E10 A v1 v2 v3 (some (.ow (.lst ((List.range w).map (colD qs))))) v5 v6 v7 none v9) (wBlt gTuple (wCons (wLc (.n 8) (wIt [] (wVar 4)) uYes (wBlt gMinL (wCons (wVar 8) wNil)) [8]) wNil)) (.fz (rowD (colS rs w))) (E10 A v1 v2 v3 (some (.fz (.lst ((List.range w).map (colD qs))))) v5 v6 v7 none v9) := by
  have mx : EvR (E10 A v1 v2 v3 (some (.ow (.lst ((List.range w).map (colD qs))))) v5 v6 v7 none v9) (wLc (.n 8) (wIt [] (wVar 4)) uYes (wBlt gMinL (wCons (wVar 8) wNil)) [8]) (.ow (.lst ((List.range w).map fun k => D.int (mnL (rs.map fun r => r.getD k 0))))) (E10 A v1 v2 v3 (some (.fz (.lst ((List.range w).map (colD qs))))) v5 v6 v7 none v9) :=
    lc_mapS (k := 4) (i := 8) (g := colD qs) (f := fun k => D.int (mnL (rs.map fun r => r.getD k 0))) (xs := List.range w) rfl (fun k hk => (ev_minL (ns := qs.map fun r => r.getD k 0) (vx 8 rfl) (mn_in hn fun r z => (h r).mp z) (mn_dn fun r z => (h r).mpr z)).fz) (by rw [List.length_range]; omega)
  have tj := ev_tuple mx.ow
  rw [sD] at tj
  exact tj
theorem five {α : Type} {a b c d m : α} : ∀ r, r ∈ [a, b, c, d, a, m] ↔ r ∈ [a, b, c, d] ++ [m] := fun r => by
  simp only [List.cons_append, List.nil_append, List.mem_cons, List.not_mem_nil, or_false]
  constructor
  · intro h; rcases h with h | h | h | h | h | h <;> simp [h]
  · intro h; rcases h with h | h | h | h | h <;> simp [h]
theorem five' {α : Type} {a b c d m : α} : ∀ r, r ∈ [a, b, c, d, c, m] ↔ r ∈ [a, b, c, d] ++ [m] := fun r => by
  simp only [List.cons_append, List.nil_append, List.mem_cons, List.not_mem_nil, or_false]
  constructor
  · intro h; rcases h with h | h | h | h | h | h <;> simp [h]
  · intro h; rcases h with h | h | h | h | h <;> simp [h]
theorem l6 {env : En} {w1 w2 w3 w4 w5 w6 : EW} {a b c d e f : List Int} (h1 : Ev env w1 (rowD a) env) (h2 : Ev env w2 (rowD b) env) (h3 : Ev env w3 (rowD c) env) (h4 : Ev env w4 (rowD d) env) (h5 : Ev env w5 (rowD e) env) (h6 : Ev env w6 (rowD f) env) : EvL env (wCons w1 (wCons w2 (wCons w3 (wCons w4 (wCons w5 (wCons w6 wNil)))))) ([a, b, c, d, e, f].map rowD) env :=
  evl_cons h1 (evl_cons h2 (evl_cons h3 (evl_cons h4 (evl_cons h5 (evl_cons h6 evl_nil)))))
def S__law_longer : FSpec := fun args Q _ => ∃ (a b c d : List Int) (w : Nat), args = [.fz (.lst [rowD a, rowD b, rowD c, rowD d])] ∧ RwOk w [a, b, c, d] ∧ Q (.fz (.bl true)) args
theorem mS__law_longer : MonoF S__law_longer := ⟨fun h _ ⟨a, b, c, d, w, e, r, q⟩ => ⟨a, b, c, d, w, e, r, h _ _ q⟩⟩
theorem kp__law_longer : Keeps S__law_longer [] 1 10 (w__law_longer S_joined S__law_is_row S_shared) where
  fit := fun args Q E ⟨_, _, _, _, _, a, _⟩ => a ▸ fit1
  run := fun args Q E ⟨a, b, c, d, w, e, R, q⟩ => by
    subst e
    unfold w__law_longer
    have sz := sizeLine_eq
    have w8 := R.w8
    have w1 := R.w1
    have hA : D.lst [rowD a, rowD b, rowD c, rowD d] = .lst ([a, b, c, d].map rowD) := rfl
    generalize hB : D.lst [rowD a, rowD b, rowD c, rowD d] = A at q hA ⊢
    have ix : ∀ {env : En} (j : Nat) (x : D), env[0]? = some (some (.fz A)) → ([rowD a, rowD b, rowD c, rowD d] : List D)[j]? = some x → EvR env (wOp2 gIx (wVar 0) (wC (.int (j : Int)))) (.fz x) env := fun j x h hx => by
      subst hB
      exact ev_ixl j (vx 0 h) cx hx
    have ixf : ∀ {env : En} (j : Nat) (x : D), env[0]? = some (some (.fz A)) → ([rowD a, rowD b, rowD c, rowD d] : List D)[j]? = some x → Ev env (wFrz (wOp2 gIx (wVar 0) (wC (.int (j : Int))))) x env := fun j x h hx => (ev_frz (ix j x h hx).fz).fz
    obtain ⟨la, pa⟩ := R.ok a (by simp)
    obtain ⟨lb, pb⟩ := R.ok b (by simp)
    obtain ⟨lc, pc⟩ := R.ok c (by simp)
    obtain ⟨ld, pd⟩ := R.ok d (by simp)
    obtain ⟨more, hmore⟩ : ∃ m, m = c.map fun x => x + 1 := ⟨_, rfl⟩
    obtain ⟨less, hless⟩ : ∃ m, m = a.map fun x => if 0 > x - 1 then 0 else x - 1 := ⟨_, rfl⟩
    have lm : more.length = w ∧ ∀ x ∈ more, 0 ≤ x := by
      subst hmore
      refine ⟨by rw [List.length_map]; exact lc, fun x hx => ?_⟩
      obtain ⟨y, hy, rfl⟩ := List.mem_map.mp hx
      have := pc y hy
      omega
    have ll : less.length = w ∧ ∀ x ∈ less, 0 ≤ x := by
      subst hless
      refine ⟨by rw [List.length_map]; exact la, fun x hx => ?_⟩
      obtain ⟨y, hy, rfl⟩ := List.mem_map.mp hx
      have := pa y hy
      split <;> omega
    have R5 : ∀ m : List Int, (m.length = w ∧ ∀ x ∈ m, 0 ≤ x) → RwOk w ([a, b, c, d] ++ [m]) := fun m hm => ⟨w1, w8, (by show 5 ≤ 10; decide), fun r hr => by
      rcases List.mem_append.mp hr with z | z
      · exact R.ok r z
      · rw [List.mem_singleton.mp z]; exact hm⟩
    have R6 : ∀ m : List Int, (m.length = w ∧ ∀ x ∈ m, 0 ≤ x) → RwOk w [a, b, c, d, a, m] := fun m hm => ⟨w1, w8, (by show 6 ≤ 10; decide), fun r hr => (R5 m hm).ok r ((five r).mp hr)⟩
    have R6' : ∀ m : List Int, (m.length = w ∧ ∀ x ∈ m, 0 ≤ x) → RwOk w [a, b, c, d, c, m] := fun m hm => ⟨w1, w8, (by show 6 ≤ 10; decide), fun r hr => (R5 m hm).ok r ((five' r).mp hr)⟩
    change wSeq _ _ _ (E10 A none none none none none none none none none)
    have e1 : EvR (E10 A none none none none none none none none none) (wBlt gTuple (wCons (wLc (.n 2) (wIt [] (wOp2 gIx (wVar 0) (wC (.int 2)))) uYes (wOp2 gAdd (wVar 2) (wC (.int 1))) [2]) wNil)) (.fz (rowD more)) (E10 A none none none none none none none none none) := by
      have := lc_mapL (i := 2) (pn := []) (w := wOp2 gAdd (wVar 2) (wC (.int 1))) (g := D.int) (f := fun x : Int => D.int (x + 1)) (xs := c) (d := rowD c) (env := E10 A none none none none none none none none none) (ix 2 (rowD c) rfl rfl) rfl (fun x hx => (ev_addi (vx 2 rfl) cx).fz) (by omega)
      have := ev_tuple this.ow
      rw [tup_row (fun x => x + 1), ← hmore] at this
      exact this
    refine seq_k fun K1 hn1 _ _ _ _ => run_set e1 (hn1 _ ?_)
    change wSeq _ _ _ (E10 A (some (.fz (rowD more))) none none none none none none none none)
    have e2 : EvR (E10 A (some (.fz (rowD more))) none none none none none none none none) (wBlt gTuple (wCons (wLc (.n 2) (wIt [] (wOp2 gIx (wVar 0) (wC (.int 0)))) uYes (wBlt gMax2 (wCons (wOp2 gSub (wVar 2) (wC (.int 1))) (wCons (wC (.int 0)) wNil))) [2]) wNil)) (.fz (rowD less)) (E10 A (some (.fz (rowD more))) none none none none none none none none) := by
      have := lc_mapL (i := 2) (pn := []) (w := wBlt gMax2 (wCons (wOp2 gSub (wVar 2) (wC (.int 1))) (wCons (wC (.int 0)) wNil))) (g := D.int) (f := fun x : Int => D.int (if 0 > x - 1 then 0 else x - 1)) (xs := a) (d := rowD a) (env := E10 A (some (.fz (rowD more))) none none none none none none none none) (ix 0 (rowD a) rfl rfl) rfl (fun x hx => (ev_blt (r := .fz (.int (if 0 > x - 1 then 0 else x - 1))) (evl_cons (ev_subi (vx 2 rfl) cx).fz (evl_cons cx evl_nil)) fun Q' q => by rw [gMax2_ii]; exact q).fz) (by omega)
      have := ev_tuple this.ow
      rw [tup_row (fun x => if 0 > x - 1 then 0 else x - 1), ← hless] at this
      exact this
    refine seq_k fun K2 hn2 _ _ _ _ => run_set e2 (hn2 _ ?_)
    change wSeq _ _ _ (E10 A (some (.fz (rowD more))) none (some (.fz (rowD less))) none none none none none none)
    have lenD : ∀ {env : En} (j : Nat) (m : List Int), m.length = w → env[j]? = some (some (.fz (rowD m))) → Ev env (wFrz (wBlt gLen (wCons (wVar j) wNil))) (.int (w : Int)) env := fun j m hm h => by
      have := ev_lent (ds := m.map D.int) (vx j h)
      rw [List.length_map, hm] at this
      exact (ev_frz this.fz).fz
    refine seq_k fun K3 hn3 _ _ _ _ => run_setO (cols_ev (rows := [a, b, c, d]) (j := 1) (R5 more lm) hA fun _ _ => rfl) (hn3 _ ?_)
    change wSeq _ _ _ (E10 A (some (.fz (rowD more))) none (some (.fz (rowD less))) (some (.ow (.lst ((List.range w).map (colD ([a, b, c, d] ++ [more])))))) none none none none none)
    refine seq_k fun K4 hn4 _ _ _ _ => run_set (ev_joined (R6 more lm) (l6 (ixf 0 (rowD a) rfl rfl) (ixf 1 (rowD b) rfl rfl) (ixf 2 (rowD c) rfl rfl) (ixf 3 (rowD d) rfl rfl) (ixf 0 (rowD a) rfl rfl) (fx (d := rowD more) 1 rfl))) (hn4 _ ?_)
    change wSeq _ _ _ (E10 A (some (.fz (rowD more))) none (some (.fz (rowD less))) (some (.ow (.lst ((List.range w).map (colD ([a, b, c, d] ++ [more])))))) none none (some (.fz (rowD (colJ [a, b, c, d, a, more] w)))) none none)
    have tj := mx_ev (A := A) (v1 := some (.fz (rowD more))) (v2 := none) (v3 := some (.fz (rowD less))) (v5 := none) (v6 := none) (v7 := some (.fz (rowD (colJ [a, b, c, d, a, more] w)))) (v9 := none) (by omega : w < 1000) (List.cons_ne_nil _ _) (five (a := a) (b := b) (c := c) (d := d) (m := more))
    refine sk_f (evt_or_f (evt_not (k := true) (evt_trub (ev_isRow (fx 7 rfl) (lenD 1 more lm.1 rfl) (colJ_len _ _) (by omega) ((R6 more lm).colJ (List.cons_ne_nil _ _))))) (evt_B (ev_neRow (vx 7 rfl) tj.fz))) ?_
    refine seq_k fun K5 hn5 _ _ _ _ => run_setO (cols_ev (rows := [a, b, c, d]) (j := 3) (R5 less ll) hA fun _ _ => rfl) (hn5 _ ?_)
    change wSeq _ _ _ (E10 A (some (.fz (rowD more))) none (some (.fz (rowD less))) (some (.ow (.lst ((List.range w).map (colD ([a, b, c, d] ++ [less])))))) none none (some (.fz (rowD (colJ [a, b, c, d, a, more] w)))) none none)
    refine seq_k fun K6 hn6 _ _ _ _ => run_set (ev_shared (R6' less ll) (l6 (ixf 0 (rowD a) rfl rfl) (ixf 1 (rowD b) rfl rfl) (ixf 2 (rowD c) rfl rfl) (ixf 3 (rowD d) rfl rfl) (ixf 2 (rowD c) rfl rfl) (fx (d := rowD less) 3 rfl))) (hn6 _ ?_)
    change wSeq _ _ _ (E10 A (some (.fz (rowD more))) none (some (.fz (rowD less))) (some (.ow (.lst ((List.range w).map (colD ([a, b, c, d] ++ [less])))))) none none (some (.fz (rowD (colS [a, b, c, d, c, less] w)))) none none)
    have ts := mn_ev (A := A) (v1 := some (.fz (rowD more))) (v2 := none) (v3 := some (.fz (rowD less))) (v5 := none) (v6 := none) (v7 := some (.fz (rowD (colS [a, b, c, d, c, less] w)))) (v9 := none) (by omega : w < 1000) (List.cons_ne_nil _ _) (five' (a := a) (b := b) (c := c) (d := d) (m := less))
    refine sk_f (evt_or_f (evt_not (k := true) (evt_trub (ev_isRow (fx 7 rfl) (lenD 3 less ll.1 rfl) (colS_len _ _) (by omega) ((R6' less ll).colS (List.cons_ne_nil _ _))))) (evt_B (ev_neRow (vx 7 rfl) ts.fz))) ?_
    refine seq_k fun K7 hn7 hr7 _ _ _ => try_k fun K8 _ _ _ _ hex _ => ?_
    have R5a : RwOk w [a, b, c, d, a] := ⟨w1, w8, (by show 5 ≤ 10; decide), fun r hr => R.ok r (by simp only [List.mem_cons, List.not_mem_nil, or_false] at hr ⊢; rcases hr with h | h | h | h | h <;> simp [h])⟩
    have fb : firstBad .non ([rowD a, rowD b, rowD c, rowD d, rowD a, .non]) = some .non := by
      have := firstBad_rows (rows := [a, b, c, d, a]) w1 w8 R5a.ok (v := .non) (.inl rfl) [.non]
      rw [if_neg (List.cons_ne_nil _ _)] at this
      exact this
    have ex : EvX (E10 A (some (.fz (rowD more))) none (some (.fz (rowD less))) (some (.fz (.lst ((List.range w).map (colD ([a, b, c, d] ++ [less])))))) none none (some (.fz (rowD (colS [a, b, c, d, c, less] w)))) none none) (wCallV 1 S_joined (wCons (wFrz (wOp2 gIx (wVar 0) (wC (.int 0)))) (wCons (wFrz (wOp2 gIx (wVar 0) (wC (.int 1)))) (wCons (wFrz (wOp2 gIx (wVar 0) (wC (.int 2)))) (wCons (wFrz (wOp2 gIx (wVar 0) (wC (.int 3)))) (wCons (wFrz (wOp2 gIx (wVar 0) (wC (.int 0)))) (wCons (wC .non) wNil))))))) (IR .non) (E10 A (some (.fz (rowD more))) none (some (.fz (rowD less))) (some (.fz (.lst ((List.range w).map (colD ([a, b, c, d] ++ [less])))))) none none (some (.fz (rowD (colS [a, b, c, d, c, less] w)))) none none) :=
      evx_callV (n := 1) (ds := [rowD a, rowD b, rowD c, rowD d, rowD a, .non]) (evl_cons (ixf 0 (rowD a) rfl rfl) (evl_cons (ixf 1 (rowD b) rfl rfl) (evl_cons (ixf 2 (rowD c) rfl rfl) (evl_cons (ixf 3 (rowD d) rfl rfl) (evl_cons (ixf 0 (rowD a) rfl rfl) (evl_cons cx evl_nil)))))) (by show 1 ≤ 6; decide) (by show 6 ≤ 1000; decide) fun q => ⟨rowD a, [rowD b, rowD c, rowD d, rowD a, .non], rfl, plain_row a, by simp only [plainL, plain_row]; rfl, (by show 5 ≤ 1000; decide), fun z => (by rw [fb] at z; cases z), fun v hv => by rw [fb] at hv; cases hv; exact q⟩
    refine ex.go (hex _ _ rfl rfl fun x => ?_)
    refine run_ret (d := .bl true) (ev_isN (ev_exA (Cn := "InvalidRow") (ks := ["value"]) (vs := [.non]) (d := .non) rfl rfl).fz) ⟨rfl, ?_⟩
    rw [hr7]
    exact ⟨_, rfl, q⟩
end LV
namespace LV
open PySem PySem.Spec L2
theorem plainL_all : ∀ {ds : List D}, (∀ d ∈ ds, d.plain = true) → plainL ds = true
  | [], _ => rfl
  | d :: ds, h => by
    show (d.plain && plainL ds) = true
    rw [h d List.mem_cons_self, plainL_all fun x hx => h x (List.mem_cons_of_mem _ hx)]; rfl
theorem lay_all : ∀ {ds : List D}, (∀ d ∈ ds, PyData.canLay0 d.pd = true) → PyData.canLayAll0 (pdL ds) = true
  | [], _ => rfl
  | d :: ds, h => by
    show (PyData.canLay0 d.pd && PyData.canLayAll0 (pdL ds)) = true
    rw [h d List.mem_cons_self, lay_all fun x hx => h x (List.mem_cons_of_mem _ hx)]; rfl
theorem deep_all {n : Nat} : ∀ {ds : List D}, (∀ d ∈ ds, PyData.depth d.pd ≤ n) → PyData.depthAll (pdL ds) ≤ n
  | [], _ => Nat.zero_le _
  | d :: ds, h => by
    show max (PyData.depth d.pd) (PyData.depthAll (pdL ds)) ≤ n
    exact Nat.max_le.mpr ⟨h d List.mem_cons_self, deep_all fun x hx => h x (List.mem_cons_of_mem _ hx)⟩
/-- what == may be asked of, with a depth -/
structure OkD (n : Nat) (d : D) : Prop where
  e : d.okE = true
  dp : d.pd.depth ≤ n
theorem okD_lst {n : Nat} {ds : List D} (hn : n ≤ 60) (h : ∀ d ∈ ds, OkD n d) : OkD (n + 1) (.lst ds) := by
  have h1 : plainL ds = true := plainL_all fun d hd => D.okE_plain (h d hd).e
  have h2 : PyData.canLayAll0 (pdL ds) = true := lay_all fun d hd => by
    have := D.okE_shaped (h d hd).e
    unfold SeqAt.shaped at this
    exact (Bool.and_eq_true_iff.mp this).1
  have h3 : PyData.depthAll (pdL ds) ≤ n := deep_all fun d hd => (h d hd).dp
  refine ⟨?_, Nat.succ_le_succ h3⟩
  show (plainL ds && (PyData.canLayAll0 (pdL ds) && decide (PyData.depthAll (pdL ds) + 1 ≤ 64))) = true
  rw [h1, h2, decide_eq_true (by omega)]
  rfl
theorem okD_str {s : Str} (h : SgOk s) : OkD 0 (.str s) := ⟨by
  show (true && (PyData.canLay0 (.str s) && decide (PyData.depth (.str s) ≤ 64))) = true
  have e : PyData.canLay0 (.str s) = true := by
    show PySem.PyData.strOk s = true
    unfold PySem.PyData.strOk
    rw [← Array.all_toList]
    exact List.all_eq_true.mpr fun c hc => decide_eq_true (h c hc)
  rw [e]
  show (true && (true && decide (PyData.depth (.str s) ≤ 64))) = true
  rw [Bool.true_and, Bool.true_and]
  exact decide_eq_true (by show 0 ≤ 64; decide), Nat.le_refl _⟩
theorem okD_int {i : Int} : OkD 0 (.int i) := ⟨rfl, Nat.le_refl _⟩
theorem okE_self {d : D} (h : d.okE = true) : eqvD d d = true := PySem.SeqAt.eqv_refl d.pd (by
  have := D.okE_shaped h
  unfold SeqAt.shaped at this
  exact (Bool.and_eq_true_iff.mp this).1)
section
variable {env e1 e2 : En} {w wa wb : EW} {wl : AW} {d : D} {r : Rv} {ds : List D} {i n : Nat} {x : Xn} {K : Ks}
theorem ev_neSelf (ha : Ev env wa d e1) (hb : Ev e1 wb d e2) (h : d.okE = true) : EvR env (wOp2 gNe wa wb) (.fz (.bl false)) e2 := ev_op ha hb fun Q' q => ⟨h, h, by rw [okE_self h]; exact q⟩
theorem ev_eqSelf (ha : Ev env wa d e1) (hb : Ev e1 wb d e2) (h : d.okE = true) : EvR env (wOp2 gEq wa wb) (.fz (.bl true)) e2 := ev_op ha hb fun Q' q => ⟨h, h, by rw [okE_self h]; exact q⟩
theorem ev_repr (h : Ev env w d e1) (hs : d.Shows) : EvR env (wBlt gRepr (wCons w wNil)) (.fz (.str d.pd.shown)) e1 := ev_blt (evl_cons h evl_nil) fun Q' q => by rw [gRepr_1]; exact ⟨hs, q⟩
theorem ev_mulL (k : Nat) (h : Ev env w (.lst ds) e1) (hk : ds.length * k ≤ 1000) (h2 : k ≤ 1000) : EvR env (wOp2 gMulT w (wC (.int (k : Int)))) (.ow (.lst (List.replicate k ds).flatten)) e1 :=
  ev_op h cx fun Q' q => .inr (by
    rw [gMul_li, Int.toNat_natCast]
    have := sizeLine_eq
    exact ⟨by omega, by omega, by omega, q⟩)
theorem ev_l1 (h : Ev env w d e1) : EvR env (wLst (wCons w wNil)) (.ow (.lst [d])) e1 := ev_lst (ds := [d]) (evl_cons h evl_nil) (by have := sizeLine_eq; show 1 ≤ _; omega)
end
/-- what can be written out and compared -/
structure Txt1 (d : D) : Prop where
  pl : d.plain = true
  sh : d.Shows
  sg : d.sg
theorem Txt1.ok {d : D} (h : Txt1 d) : SgOk d.pd.shown := sg_shown d h.sg
theorem sg_row (r : List Int) : (rowD r).sg := sgL_of fun d hd => by
  obtain ⟨x, _, rfl⟩ := List.mem_map.mp hd
  trivial
theorem txt_tidy {d : D} (h : d.tidy = true ∧ d.nodes ≤ 30) (g : d.sg) : Txt1 d := ⟨tidy_plain d h.1, shows_t h, g⟩
theorem txt_row {w : Nat} {r : List Int} (h : RowOk w (10 ^ 31) r) (w8 : w ≤ 8) : Txt1 (rowD r) := txt_tidy ⟨tidyL_ints h.bd, by
  show nodesL (r.map D.int) + 1 ≤ 30
  rw [nodesL_ints, h.len]; omega⟩ (sg_row r)
theorem txt_non : Txt1 .non := txt_tidy ⟨rfl, by decide⟩ trivial
def refD (v : D) : D := .lst [.str "refused", .str v.pd.shown]
def letD : D := .lst [.str "let", .str ""]
def duesL (r o : D) (lone : Bool) : List D := List.replicate 6 (refD o) ++ (if lone = true then List.replicate 7 (refD o) else [refD r, refD .non, refD r, refD r] ++ List.replicate 3 letD)
theorem fl_one {α : Type} (k : Nat) (x : α) : (List.replicate k [x]).flatten = List.replicate k x := by
  induction k with
  | zero => rfl
  | succ k ih => rw [List.replicate_succ, List.flatten_cons, ih, List.replicate_succ]; rfl
def S__law_dues : FSpec := fun args Q _ => ∃ (r o : D) (l : Bool), args = [.fz r, .fz o, .fz (.bl l)] ∧ Txt1 r ∧ Txt1 o ∧ Q (.ow (.lst (duesL r o l))) args
theorem mS__law_dues : MonoF S__law_dues := ⟨fun h _ ⟨a, b, c, d, e, f, q⟩ => ⟨a, b, c, d, e, f, h _ _ q⟩⟩
section
variable {env : En} {w : EW} {d : D}
theorem ev_refD (h : Ev env w d env) (hs : d.Shows) : Ev env (wLst (wCons (wC (.str "refused")) (wCons (wBlt gRepr (wCons w wNil)) wNil))) (refD d) env :=
  (ev_lst (ds := [.str "refused", .str d.pd.shown]) (evl_cons cx (evl_cons (ev_repr h hs).fz evl_nil)) (by have := sizeLine_eq; show 2 ≤ _; omega)).ow
theorem ev_letD : Ev env (wLst (wCons (wC (.str "let")) (wCons (wC (.str "")) wNil))) letD env :=
  (ev_lst (ds := [.str "let", .str ""]) (evl_cons cx (evl_cons cx evl_nil)) (by have := sizeLine_eq; show 2 ≤ _; omega)).ow
end
theorem kp__law_dues : Keeps S__law_dues [] 3 4 w__law_dues where
  fit := fun args Q E ⟨_, _, _, a, _⟩ => a ▸ fit3
  run := fun args Q E ⟨r, o, l, e, hr, ho, q⟩ => by
    subst e
    unfold w__law_dues
    have sz := sizeLine_eq
    change wSeq _ _ _ [some (.fz r), some (.fz o), some (.fz (.bl l)), none]
    have rp : ∀ (k : Nat) (v : Option Val), k ≤ 10 → EvR [some (.fz r), some (.fz o), some (.fz (.bl l)), v] (wOp2 gMulT (wLst (wCons (wLst (wCons (wC (.str "refused")) (wCons (wBlt gRepr (wCons (wVar 1) wNil)) wNil))) wNil)) (wC (.int (k : Int)))) (.ow (.lst (List.replicate k (refD o)))) [some (.fz r), some (.fz o), some (.fz (.bl l)), v] := fun k v hk => by
      have := ev_mulL k (env := [some (.fz r), some (.fz o), some (.fz (.bl l)), v]) (ds := [refD o]) (ev_l1 (ev_refD (vx 1 rfl) ho.sh)).ow (by show 1 * k ≤ 1000; omega) (by omega)
      rw [fl_one] at this
      exact this
    refine seq_k fun K1 hn1 _ _ _ _ => run_setO (rp 6 none (by decide)) (hn1 _ ?_)
    change wSeq _ _ _ [some (.fz r), some (.fz o), some (.fz (.bl l)), some (.ow (.lst (List.replicate 6 (refD o))))]
    cases l with
    | true =>
      refine sk_t (evt_tru (vx 2 rfl) rfl) fun K' hr _ => ?_
      refine run_retO (ev_opS (o := .lst (List.replicate 6 (refD o))) (r := .ow (.lst (List.replicate 6 (refD o) ++ List.replicate 7 (refD o)))) rfl (rp 7 _ (by decide)).ow rfl fun Q' q => ?_) ?_
      · exact ⟨by rw [List.length_replicate, List.length_replicate]; omega, q⟩
      · rw [hr]
        exact ⟨_, rfl, q⟩
    | false =>
      refine sk_f (evt_tru (vx 2 rfl) rfl) ?_
      have four : ∀ v, EvR [some (.fz r), some (.fz o), some (.fz (.bl false)), v] (wLst (wCons (wLst (wCons (wC (.str "refused")) (wCons (wBlt gRepr (wCons (wVar 0) wNil)) wNil))) (wCons (wLst (wCons (wC (.str "refused")) (wCons (wBlt gRepr (wCons (wC .non) wNil)) wNil))) (wCons (wLst (wCons (wC (.str "refused")) (wCons (wBlt gRepr (wCons (wVar 0) wNil)) wNil))) (wCons (wLst (wCons (wC (.str "refused")) (wCons (wBlt gRepr (wCons (wVar 0) wNil)) wNil))) wNil))))) (.ow (.lst [refD r, refD .non, refD r, refD r])) [some (.fz r), some (.fz o), some (.fz (.bl false)), v] := fun v =>
        ev_lst (ds := [refD r, refD .non, refD r, refD r]) (evl_cons (ev_refD (vx 0 rfl) hr.sh) (evl_cons (ev_refD cx txt_non.sh) (evl_cons (ev_refD (vx 0 rfl) hr.sh) (evl_cons (ev_refD (vx 0 rfl) hr.sh) evl_nil)))) (by show 4 ≤ _; omega)
      refine seq_k fun K2 hn2 _ _ _ _ => run_setO (ev_opS (o := .lst (List.replicate 6 (refD o))) (r := .ow (.lst (List.replicate 6 (refD o) ++ [refD r, refD .non, refD r, refD r]))) rfl (four _).ow rfl fun Q' q => ?_) (hn2 _ ?_)
      · exact ⟨by rw [List.length_replicate]; show 6 + 4 ≤ _; omega, q⟩
      · change wRet _ _ _ [some (.fz r), some (.fz o), some (.fz (.bl false)), some (.ow (.lst (List.replicate 6 (refD o) ++ [refD r, refD .non, refD r, refD r])))]
        have lt3 : EvR [some (.fz r), some (.fz o), some (.fz (.bl false)), some (.ow (.lst (List.replicate 6 (refD o) ++ [refD r, refD .non, refD r, refD r])))] (wOp2 gMulT (wLst (wCons (wLst (wCons (wC (.str "let")) (wCons (wC (.str "")) wNil))) wNil)) (wC (.int 3))) (.ow (.lst (List.replicate 3 letD))) [some (.fz r), some (.fz o), some (.fz (.bl false)), some (.ow (.lst (List.replicate 6 (refD o) ++ [refD r, refD .non, refD r, refD r])))] :=
          ev_mulL 3 (ds := [letD]) (ev_l1 ev_letD).ow (by decide) (by decide)
        refine run_retO (ev_opS (o := .lst (List.replicate 6 (refD o) ++ [refD r, refD .non, refD r, refD r])) (r := .ow (.lst (List.replicate 6 (refD o) ++ [refD r, refD .non, refD r, refD r] ++ List.replicate 3 letD))) rfl lt3.ow rfl fun Q' q => ?_) ?_
        · exact ⟨by show 10 + 3 ≤ _; omega, q⟩
        · refine ⟨_, rfl, ?_⟩
          have e : List.replicate 6 (refD o) ++ [refD r, refD .non, refD r, refD r] ++ List.replicate 3 letD = duesL r o false := by
            unfold duesL
            rw [List.append_assoc, if_neg Bool.false_ne_true]
          rw [e]
          exact q
end LV
namespace LV
open PySem PySem.Spec L2
def ifC : Nat → List EW → EW → SW
  | _, [], l => wExp l
  | n, w :: ws, l => wIf (wB (wOp2 gEq (wVar 0) (wC (.int ((n : Nat) : Int))))) (wExp w) (ifC (n + 1) ws l)
theorem ifC_run {env : En} {K : Ks} {w : EW} : ∀ (ws : List EW) (l : EW) (n k : Nat), (ws ++ [l])[k]? = some w → env[0]? = some (some (.fz (.int ((n + k : Nat) : Int)))) → wExp w K env → ifC n ws l K env
  | [], l, n, 0, h, _, q => by cases h; exact q
  | [], l, n, k + 1, h, _, _ => by cases h
  | w0 :: ws, l, n, 0, h, e, q => by
    have hh : w0 = w := by injection h
    rw [← hh] at q
    exact run_if_t (evt_B (ev_eqi' (vx 0 e) cx (decide_eq_true (by rw [Nat.add_zero])))) q
  | w0 :: ws, l, n, k + 1, h, e, q =>
    run_if_f (evt_B (ev_eqi' (vx 0 e) cx (decide_eq_false (by omega)))) (ifC_run ws l (n + 1) k h (by rw [show n + 1 + k = n + (k + 1) by omega]; exact e) q)
/-- an odd item of width other than w, or of no row -/
structure OddF (w : Nat) (o : D) (lone : Bool) : Prop where
  tx : Txt1 o
  bw : isRowD o (.int w) = false
  bn : isRowD o .non = !lone
  tp : lone = false → ∃ ds, o = .tup ds ∧ ds.length ≠ w
section
variable {env : En} {wa wb w : EW} {wl : AW} {a b o v : D} {n : Nat} {ds rest : List D}
theorem evx_check (ha : Ev env wa a env) (hb : Ev env wb (.int (n : Int)) env) (p : a.plain = true) (h : isRowD a (.int (n : Int)) = false) : EvX env (wCall S_check_row (wCons wa (wCons wb wNil))) (IR a) env :=
  evx_call (S := S_check_row) (ds := [a, .int (n : Int)]) (evl_cons ha (evl_cons hb evl_nil)) fun q => ⟨a, .int (n : Int), rfl, p, .inr ⟨_, rfl⟩, fun z => (by rw [h] at z; cases z), fun _ => q⟩
theorem evx_covers (ha : Ev env wa a env) (hb : Ev env wb b env) (p : a.plain = true) (p2 : b.plain = true) (h : firstBad .non [a, b] = some v) : EvX env (wCall S_covers (wCons wa (wCons wb wNil))) (IR v) env :=
  evx_call (S := S_covers) (ds := [a, b]) (evl_cons ha (evl_cons hb evl_nil)) fun q => ⟨a, b, rfl, p, p2, fun _ _ z => (by rw [h] at z; cases z), fun u hu => by rw [h] at hu; cases hu; exact q⟩
theorem evx_joined (hl : EvL env wl (a :: rest) env) (p : a.plain = true) (p2 : plainL rest = true) (hr : rest.length ≤ 10) (h : firstBad .non (a :: rest) = some v) : EvX env (wCallV 1 S_joined wl) (IR v) env :=
  evx_callV (n := 1) (ds := a :: rest) hl (by rw [List.length_cons]; omega) (by rw [List.length_cons]; omega) fun q => ⟨a, rest, rfl, p, p2, by omega, fun z => (by rw [h] at z; cases z), fun u hu => by rw [h] at hu; cases hu; exact q⟩
theorem evx_shared (hl : EvL env wl (a :: rest) env) (p : a.plain = true) (p2 : plainL rest = true) (hr : rest.length ≤ 10) (h : firstBad .non (a :: rest) = some v) : EvX env (wCallV 1 S_shared wl) (IR v) env :=
  evx_callV (n := 1) (ds := a :: rest) hl (by rw [List.length_cons]; omega) (by rw [List.length_cons]; omega) fun q => ⟨a, rest, rfl, p, p2, by omega, fun z => (by rw [h] at z; cases z), fun u hu => by rw [h] at hu; cases hu; exact q⟩
theorem evx_size (ha : Ev env wa a env) (p : a.plain = true) (h : isRowD a .non = false) : EvX env (wCall S_size (wCons wa wNil)) (IR a) env :=
  evx_call (S := S_size) (ds := [a]) (evl_cons ha evl_nil) fun q => ⟨a, rfl, p, fun _ z => (by rw [h] at z; cases z), fun _ => q⟩
theorem ev_size {r : List Int} (ha : Ev env wa (rowD r) env) (h : isRowD (rowD r) .non = true) : EvR env (wCall S_size (wCons wa wNil)) (.fz (.int r.sum)) env :=
  ev_call (S := S_size) (ds := [rowD r]) (evl_cons ha evl_nil) (fun q => ⟨rowD r, rfl, plain_row r, fun r' _ e => by rw [← row_inj e]; exact q, fun z => by rw [h] at z; cases z⟩) fun _ z => by cases z
end
theorem OddF.lone {w : Nat} {o : D} (h : OddF w o true) (l : List D) : firstBad .non (o :: l) = some o := fb_bad (by rw [h.bn]; rfl)
theorem OddF.two {w : Nat} {o : D} (h : OddF w o false) {x : D} (hx : ∀ m : Nat, m ≠ w → isRowD x (.int m) = false) (l : List D) : firstBad .non (o :: x :: l) = some x := by
  obtain ⟨ds, rfl, hd⟩ := h.tp rfl
  have b : isRowD (.tup ds) .non = true := by rw [h.bn]; rfl
  rw [firstBad, if_pos b]
  exact fb_bad (hx _ hd)
theorem row_off {r : List Int} {w : Nat} (hl : r.length = w) : ∀ m : Nat, m ≠ w → isRowD (rowD r) (.int m) = false := fun m hm => by
  show (decide (1 ≤ (r.map D.int).length) && decide ((r.map D.int).length ≤ 8) && decide (((r.map D.int).length : Int) = (m : Int)) && (r.map D.int).all entOk) = false
  rw [List.length_map, decide_eq_false (p := ((r.length : Int) = (m : Int))) (by omega), Bool.and_false, Bool.false_and]
abbrev E5 (k : Nat) (A o : D) (a : List Int) : En := [some (.fz (.int (k : Int))), some (.fz A), some (.fz o), some (.fz (rowD a)), none]
abbrev calledL : List EW := [wCall S_check_row (wCons (wFrz (wVar 2)) (wCons (wFrz (wBlt gLen (wCons (wVar 3) wNil))) wNil)),
  wCall S_covers (wCons (wFrz (wVar 3)) (wCons (wFrz (wVar 2)) wNil)),
  wCallV 1 S_joined (wCons (wFrz (wVar 3)) (wCons (wFrz (wVar 2)) wNil)),
  wCallV 1 S_shared (wCons (wFrz (wVar 3)) (wCons (wFrz (wVar 2)) wNil)),
  wCallV 1 S_joined (wCons (wFrz (wVar 3)) (wCons (wFrz (wOp2 gIx (wVar 1) (wC (.int 1)))) (wCons (wFrz (wVar 2)) (wCons (wFrz (wOp2 gIx (wVar 1) (wC (.int 2)))) wNil)))),
  wCallV 1 S_shared (wCons (wFrz (wVar 3)) (wCons (wFrz (wOp2 gIx (wVar 1) (wC (.int 3)))) (wCons (wFrz (wVar 2)) (wCons (wC .non) wNil)))),
  wCall S_covers (wCons (wFrz (wVar 2)) (wCons (wFrz (wVar 3)) wNil)),
  wCall S_covers (wCons (wFrz (wVar 2)) (wCons (wC .non) wNil)),
  wCallV 1 S_joined (wCons (wFrz (wVar 2)) (wCons (wFrz (wVar 3)) wNil)),
  wCallV 1 S_shared (wCons (wFrz (wVar 2)) (wCons (wFrz (wVar 3)) (wCons (wFrz (wOp2 gIx (wVar 1) (wC (.int 1)))) wNil))),
  wCallV 1 S_joined (wCons (wFrz (wVar 2)) wNil),
  wCallV 1 S_shared (wCons (wFrz (wVar 2)) wNil)]
abbrev calledZ : EW := wCall S_size (wCons (wFrz (wVar 2)) wNil)
/-- what the call of each number does -/
inductive Out (env : En) (c : EW) : D → Prop
  | ref {v : D} : EvX env c (IR v) env → v.Shows → Out env c (refD v)
  | ok {r : Rv} : EvR env c r env → Out env c letD
theorem called_out {a b c d : List Int} {w k : Nat} {o : D} {lone : Bool} (R : RwOk w [a, b, c, d]) (ha : (rowD a).Shows) (O : OddF w o lone) (hk : k < 13) :
    ∃ (e : EW) (u : D), (calledL ++ [calledZ])[k]? = some e ∧ (duesL (rowD a) o lone)[k]? = some u ∧ Out (E5 k (.lst [rowD a, rowD b, rowD c, rowD d]) o a) e u := by
  generalize hA : D.lst [rowD a, rowD b, rowD c, rowD d] = A
  obtain ⟨la, pa⟩ := R.ok a (by simp)
  obtain ⟨lb, pb⟩ := R.ok b (by simp)
  obtain ⟨lc, pc⟩ := R.ok c (by simp)
  obtain ⟨ld, pd⟩ := R.ok d (by simp)
  have w1 := R.w1
  have w8 := R.w8
  have po := O.tx.pl
  have so := O.tx.sh
  have ixf : ∀ (j : Nat) (x : D), ([rowD a, rowD b, rowD c, rowD d] : List D)[j]? = some x → Ev (E5 k A o a) (wFrz (wOp2 gIx (wVar 1) (wC (.int (j : Int))))) x (E5 k A o a) := fun j x hx => by
    subst hA
    exact (ev_frz (ev_ixl j (vx 1 rfl) cx hx).fz).fz
  have f2 : Ev (E5 k A o a) (wFrz (wVar 2)) o (E5 k A o a) := fx 2 rfl
  have f3 : Ev (E5 k A o a) (wFrz (wVar 3)) (rowD a) (E5 k A o a) := fx 3 rfl
  have ln : Ev (E5 k A o a) (wFrz (wBlt gLen (wCons (wVar 3) wNil))) (.int (w : Int)) (E5 k A o a) := by
    have := ev_lent (env := E5 k A o a) (ds := a.map D.int) (vx 3 rfl)
    rw [List.length_map, la] at this
    exact (ev_frz this.fz).fz
  have fr : ∀ (rs : List (List Int)) (l : List D), (∀ r ∈ rs, r.length = w ∧ ∀ x ∈ r, 0 ≤ x) → firstBad .non (rowD a :: (rs.map rowD ++ o :: l)) = some o := fun rs l h => by
    have := firstBad_rows (rows := a :: rs) w1 w8 (fun r hr => (List.mem_cons.mp hr).elim (fun e => e ▸ ⟨la, pa⟩) fun z => h r z) (v := .non) (.inl rfl) (o :: l)
    rw [if_neg (List.cons_ne_nil _ _)] at this
    rw [List.map_cons] at this
    exact this.trans (fb_bad O.bw)
  have nw : ∀ m : Nat, m ≠ w → isRowD .non (.int m) = false := fun _ _ => rfl
  have p1 : ∀ x : D, x.plain = true → plainL [x] = true := fun x hx => by show (x.plain && true) = true; rw [hx]; rfl
  have p2 : ∀ x y : D, x.plain = true → y.plain = true → plainL [x, y] = true := fun x y hx hy => by show (x.plain && (y.plain && true)) = true; rw [hx, hy]; rfl
  have p3 : ∀ x y z : D, x.plain = true → y.plain = true → z.plain = true → plainL [x, y, z] = true := fun x y z hx hy hz => by show (x.plain && (y.plain && (z.plain && true))) = true; rw [hx, hy, hz]; rfl
  have ra := plain_row a
  rcases (by omega : k = 0 ∨ k = 1 ∨ k = 2 ∨ k = 3 ∨ k = 4 ∨ k = 5 ∨ k = 6 ∨ k = 7 ∨ k = 8 ∨ k = 9 ∨ k = 10 ∨ k = 11 ∨ k = 12) with rfl | rfl | rfl | rfl | rfl | rfl | rfl | rfl | rfl | rfl | rfl | rfl | rfl
  · exact ⟨_, _, rfl, rfl, .ref (evx_check f2 ln po O.bw) so⟩
  · exact ⟨_, _, rfl, rfl, .ref (evx_covers f3 f2 ra po (fr [] [] fun _ z => nomatch z)) so⟩
  · exact ⟨_, _, rfl, rfl, .ref (evx_joined (rest := [o]) (evl_cons f3 (evl_cons f2 evl_nil)) ra (p1 o po) (by show 1 ≤ 10; decide) (fr [] [] fun _ z => nomatch z)) so⟩
  · exact ⟨_, _, rfl, rfl, .ref (evx_shared (rest := [o]) (evl_cons f3 (evl_cons f2 evl_nil)) ra (p1 o po) (by show 1 ≤ 10; decide) (fr [] [] fun _ z => nomatch z)) so⟩
  · exact ⟨_, _, rfl, rfl, .ref (evx_joined (rest := [rowD b, o, rowD c]) (evl_cons f3 (evl_cons (ixf 1 _ rfl) (evl_cons f2 (evl_cons (ixf 2 _ rfl) evl_nil)))) ra (p3 _ _ _ (plain_row b) po (plain_row c)) (by show 3 ≤ 10; decide) (fr [b] [rowD c] fun r z => by rw [List.mem_singleton.mp z]; exact ⟨lb, pb⟩)) so⟩
  · exact ⟨_, _, rfl, rfl, .ref (evx_shared (rest := [rowD d, o, .non]) (evl_cons f3 (evl_cons (ixf 3 _ rfl) (evl_cons f2 (evl_cons cx evl_nil)))) ra (p3 _ _ _ (plain_row d) po rfl) (by show 3 ≤ 10; decide) (fr [d] [.non] fun r z => by rw [List.mem_singleton.mp z]; exact ⟨ld, pd⟩)) so⟩
  all_goals cases lone
  · exact ⟨_, _, rfl, rfl, .ref (evx_covers f2 f3 po ra (O.two (row_off la) [])) ha⟩
  · exact ⟨_, _, rfl, rfl, .ref (evx_covers f2 f3 po ra (O.lone _)) so⟩
  · exact ⟨_, _, rfl, rfl, .ref (evx_covers f2 cx po rfl (O.two nw [])) txt_non.sh⟩
  · exact ⟨_, _, rfl, rfl, .ref (evx_covers f2 cx po rfl (O.lone _)) so⟩
  · exact ⟨_, _, rfl, rfl, .ref (evx_joined (rest := [rowD a]) (evl_cons f2 (evl_cons f3 evl_nil)) po (p1 _ ra) (by show 1 ≤ 10; decide) (O.two (row_off la) [])) ha⟩
  · exact ⟨_, _, rfl, rfl, .ref (evx_joined (rest := [rowD a]) (evl_cons f2 (evl_cons f3 evl_nil)) po (p1 _ ra) (by show 1 ≤ 10; decide) (O.lone _)) so⟩
  · exact ⟨_, _, rfl, rfl, .ref (evx_shared (rest := [rowD a, rowD b]) (evl_cons f2 (evl_cons f3 (evl_cons (ixf 1 _ rfl) evl_nil))) po (p2 _ _ ra (plain_row b)) (by show 2 ≤ 10; decide) (O.two (row_off la) _)) ha⟩
  · exact ⟨_, _, rfl, rfl, .ref (evx_shared (rest := [rowD a, rowD b]) (evl_cons f2 (evl_cons f3 (evl_cons (ixf 1 _ rfl) evl_nil))) po (p2 _ _ ra (plain_row b)) (by show 2 ≤ 10; decide) (O.lone _)) so⟩
  · obtain ⟨r, rfl, r0, r1, r8, _⟩ := isRowD_row (v := o) (w := .non) (by rw [O.bn]; rfl)
    exact ⟨_, _, rfl, rfl, .ok (ev_joined (w := r.length) (rs := []) ⟨r1, r8, (by show 1 ≤ 10; decide), fun x hx => by rw [List.mem_singleton.mp hx]; exact ⟨rfl, r0⟩⟩ (evl_cons f2 evl_nil))⟩
  · exact ⟨_, _, rfl, rfl, .ref (evx_joined (rest := []) (evl_cons f2 evl_nil) po rfl (Nat.zero_le _) (O.lone _)) so⟩
  · obtain ⟨r, rfl, r0, r1, r8, _⟩ := isRowD_row (v := o) (w := .non) (by rw [O.bn]; rfl)
    exact ⟨_, _, rfl, rfl, .ok (ev_shared (w := r.length) (rs := []) ⟨r1, r8, (by show 1 ≤ 10; decide), fun x hx => by rw [List.mem_singleton.mp hx]; exact ⟨rfl, r0⟩⟩ (evl_cons f2 evl_nil))⟩
  · exact ⟨_, _, rfl, rfl, .ref (evx_shared (rest := []) (evl_cons f2 evl_nil) po rfl (Nat.zero_le _) (O.lone _)) so⟩
  · obtain ⟨r, rfl, r0, r1, r8, _⟩ := isRowD_row (v := o) (w := .non) (by rw [O.bn]; rfl)
    exact ⟨_, _, rfl, rfl, .ok (ev_size f2 (by rw [O.bn]; rfl))⟩
  · exact ⟨_, _, rfl, rfl, .ref (evx_size f2 po (by rw [O.bn]; rfl)) so⟩
def S__law_called : FSpec := fun args Q _ => ∃ (a b c d : List Int) (w k : Nat) (o : D) (lone : Bool), args = [.fz (.int (k : Int)), .fz (.lst [rowD a, rowD b, rowD c, rowD d]), .fz o] ∧ RwOk w [a, b, c, d] ∧ (rowD a).Shows ∧ OddF w o lone ∧ k < 13 ∧ ∀ l, (duesL (rowD a) o lone)[k]? = some (.lst l) → Q (.ow (.lst l)) args
theorem mS__law_called : MonoF S__law_called := ⟨fun h _ ⟨a, b, c, d, w, k, o, l, e, f, g, i, j, q⟩ => ⟨a, b, c, d, w, k, o, l, e, f, g, i, j, fun x y => h _ _ (q x y)⟩⟩
theorem kp__law_called : Keeps S__law_called [] 3 5 (w__law_called S_check_row S_covers S_joined S_shared S_size) where
  fit := fun args Q E ⟨_, _, _, _, _, _, _, _, a, _⟩ => a ▸ fit3
  run := fun args Q E ⟨a, b, c, d, w, k, o, lone, e, R, ha, O, hk, q⟩ => by
    subst e
    unfold w__law_called
    have sz := sizeLine_eq
    obtain ⟨c1, u, h1, h2, out⟩ := called_out R ha O hk
    generalize hA : D.lst [rowD a, rowD b, rowD c, rowD d] = A at q out ⊢
    change wSeq _ _ _ [some (.fz (.int (k : Int))), some (.fz A), some (.fz o), none, none]
    have e0 : EvR [some (.fz (.int (k : Int))), some (.fz A), some (.fz o), none, none] (wOp2 gIx (wVar 1) (wC (.int 0))) (.fz (rowD a)) [some (.fz (.int (k : Int))), some (.fz A), some (.fz o), none, none] := by
      subst hA
      exact ev_ixl 0 (vx 1 rfl) cx rfl
    refine seq_k fun K1 hn1 _ _ _ _ => run_set e0 (hn1 _ ?_)
    change wSeq _ _ _ (E5 k A o a)
    refine seq_k fun K2 hn2 hr2 _ _ _ => try_k fun K3 hn3 _ _ _ hex _ => ?_
    change ifC 0 calledL calledZ K3 (E5 k A o a)
    refine ifC_run calledL calledZ 0 k h1 (by rw [Nat.zero_add]; rfl) ?_
    cases out with
    | @ref v ex sh =>
      refine ex.go (hex _ _ rfl rfl fun x => ?_)
      refine run_retO (ev_lst (ds := [.str "refused", .str v.pd.shown]) (evl_cons cx (evl_cons (ev_repr (ev_exA (Cn := "InvalidRow") (ks := ["value"]) (vs := [v]) (d := v) rfl rfl).fz sh).fz evl_nil)) (by show 2 ≤ _; omega)) ⟨rfl, ?_⟩
      rw [hr2]
      exact ⟨_, rfl, q _ h2⟩
    | ok ev =>
      refine ev.go ?_
      rw [hn3]
      refine hn2 _ ?_
      exact run_retO (ev_lst (ds := [.str "let", .str ""]) (evl_cons cx (evl_cons cx evl_nil)) (by show 2 ≤ _; omega)) ⟨_, rfl, q _ h2⟩
end LV
namespace LV
open PySem PySem.Spec L2
section
variable {env : En} {wa wb : EW} {x y : Bool}
theorem ev_orb (ha : EvR env wa (.fz (.bl x)) env) (hb : EvR env wb (.fz (.bl y)) env) : EvR env (wOr wa wb) (.fz (.bl (x || y))) env := by
  cases x with
  | true => exact ev_or_t ha
  | false => exact ev_or_f ha hb
theorem ev_andb (ha : EvR env wa (.fz (.bl x)) env) (hb : EvR env wb (.fz (.bl y)) env) : EvR env (wAnd wa wb) (.fz (.bl (x && y))) env := by
  cases x with
  | true => exact ev_and_t ha hb
  | false => exact ev_and_f ha
end
theorem sgOdd (r : List Int) {x : D} (p : Nat) (hx : x.sg) : (oddM r p x).sg := sgL_of fun d hd => by
  rcases List.mem_append.mp hd with z | z
  · rcases List.mem_append.mp z with z | z
    · obtain ⟨y, _, rfl⟩ := List.mem_map.mp (List.mem_of_mem_take z); trivial
    · rw [List.mem_singleton.mp z]; exact hx
  · obtain ⟨y, _, rfl⟩ := List.mem_map.mp (List.mem_of_mem_drop z); trivial
theorem odd_sg (r : List Int) (p k : Nat) (hk : k < 13) : (oddD r p k).sg := by
  have i : ∀ d ∈ r.map D.int, d.sg := fun d hd => by
    obtain ⟨y, _, rfl⟩ := List.mem_map.mp hd; trivial
  rcases (by omega : k = 0 ∨ k = 1 ∨ k = 2 ∨ k = 3 ∨ k = 4 ∨ k = 5 ∨ k = 6 ∨ k = 7 ∨ k = 8 ∨ k = 9 ∨ k = 10 ∨ k = 11 ∨ k = 12) with rfl | rfl | rfl | rfl | rfl | rfl | rfl | rfl | rfl | rfl | rfl | rfl | rfl
  · exact sgL_of i
  · exact sgOdd r p trivial
  · exact sgOdd r p trivial
  · exact sgOdd r p trivial
  · exact sgOdd r p (sg_ofS "1")
  · exact sgOdd r p ⟨trivial, trivial⟩
  · exact sgL_of fun d hd => by
      rcases List.mem_append.mp hd with z | z
      · exact i d z
      · rw [List.mem_singleton.mp z]; trivial
  · exact sgL_of fun d hd => i d (List.mem_of_mem_take hd)
  · trivial
  · exact sgL_of fun d hd => by rw [List.eq_of_mem_replicate hd]; trivial
  · trivial
  · exact sg_ofS ""
  · trivial
theorem oddF {r : List Int} {w p k : Nat} (hr : RowOk w (10 ^ 31) r) (w1 : 1 ≤ w) (w8 : w ≤ 8) (hp : p < w) (hk : k < 13) : OddF w (oddD r p k) (loneK w k) :=
  ⟨txt_tidy (odd_tidy hr w8 hk) (odd_sg r p k hk), (odd_row hr w1 w8 hp hk).1, (odd_row hr w1 w8 hp hk).2, fun h => odd_tup hr w1 h⟩
theorem refD_ok {v : D} (h : Txt1 v) : (refD v).okE = true := (okD_lst (n := 0) (ds := [.str "refused", .str v.pd.shown]) (by decide) fun d hd => by
  simp only [List.mem_cons, List.not_mem_nil, or_false] at hd
  rcases hd with rfl | rfl
  · exact okD_str (sg_ofS _)
  · exact okD_str h.ok).e
theorem letD_ok : letD.okE = true := (okD_lst (n := 0) (ds := [.str "let", .str ""]) (by decide) fun d hd => by
  simp only [List.mem_cons, List.not_mem_nil, or_false] at hd
  rcases hd with rfl | rfl
  · exact okD_str (sg_ofS _)
  · exact okD_str (sg_ofS _)).e
/-- each of the thirteen -/
theorem dues_get {r o : D} {l : Bool} {k : Nat} (hr : Txt1 r) (ho : Txt1 o) (hk : k < 13) : ∃ xs, (duesL r o l)[k]? = some (.lst xs) ∧ (D.lst xs).okE = true := by
  have len : (duesL r o l).length = 13 := by cases l <;> rfl
  obtain ⟨d, hd⟩ : ∃ d, (duesL r o l)[k]? = some d := ⟨_, List.getElem?_eq_getElem (by rw [len]; exact hk)⟩
  have hm : d ∈ duesL r o l := List.mem_of_getElem? hd
  rw [hd]
  have : d = refD o ∨ d = refD r ∨ d = refD .non ∨ d = letD := by
    unfold duesL at hm
    rcases List.mem_append.mp hm with z | z
    · exact .inl (List.eq_of_mem_replicate z)
    · cases l with
      | true => rw [if_pos rfl] at z; exact .inl (List.eq_of_mem_replicate z)
      | false =>
        rw [if_neg Bool.false_ne_true] at z
        rcases List.mem_append.mp z with z | z
        · simp only [List.mem_cons, List.not_mem_nil, or_false] at z
          rcases z with z | z | z | z
          · exact .inr (.inl z)
          · exact .inr (.inr (.inl z))
          · exact .inr (.inl z)
          · exact .inr (.inl z)
        · exact .inr (.inr (.inr (List.eq_of_mem_replicate z)))
  rcases this with rfl | rfl | rfl | rfl
  · exact ⟨_, rfl, refD_ok ho⟩
  · exact ⟨_, rfl, refD_ok hr⟩
  · exact ⟨_, rfl, refD_ok txt_non⟩
  · exact ⟨_, rfl, letD_ok⟩
abbrev E9r (g : O) (A : D) (a : List Int) (p : Int) (v4 v5 v6 v7 v8 : Option Val) : En := [some (.ow g), some (.fz A), some (.fz (rowD a)), some (.fz (.int p)), v4, v5, v6, v7, v8]
theorem lone_ev {g : O} {A : D} {a : List Int} {w k : Nat} {p : Int} {v5 v6 v7 v8 : Option Val} (hl : a.length = w) : EvR (E9r g A a p (some (.fz (.int (k : Int)))) v5 v6 v7 v8) (wOr (wOp2 gNotIn (wVar 4) (wTup (wCons (wC (.int 6)) (wCons (wC (.int 7)) wNil)))) (wOr (wAnd (wOp2 gEq (wVar 4) (wC (.int 6))) (wOp2 gEq (wBlt gLen (wCons (wVar 2) wNil)) (wC (.int 8)))) (wAnd (wOp2 gEq (wVar 4) (wC (.int 7))) (wOp2 gEq (wBlt gLen (wCons (wVar 2) wNil)) (wC (.int 1)))))) (.fz (.bl (loneK w k))) (E9r g A a p (some (.fz (.int (k : Int)))) v5 v6 v7 v8) := by
  have ln : Ev (E9r g A a p (some (.fz (.int (k : Int)))) v5 v6 v7 v8) (wBlt gLen (wCons (wVar 2) wNil)) (.int (w : Int)) (E9r g A a p (some (.fz (.int (k : Int)))) v5 v6 v7 v8) := by
    have := ev_lent (env := E9r g A a p (some (.fz (.int (k : Int)))) v5 v6 v7 v8) (ds := a.map D.int) (vx 2 rfl)
    rw [List.length_map, hl] at this
    exact this.fz
  have d1 : ∀ n m : Nat, decide ((n : Int) = (m : Int)) = (n == m) := fun n m => by
    rw [Bool.eq_iff_iff, decide_eq_true_eq, beq_iff_eq]; omega
  have n1 : EvR (E9r g A a p (some (.fz (.int (k : Int)))) v5 v6 v7 v8) (wOp2 gNotIn (wVar 4) (wTup (wCons (wC (.int 6)) (wCons (wC (.int 7)) wNil)))) (.fz (.bl (!(k == 6 || k == 7)))) (E9r g A a p (some (.fz (.int (k : Int)))) v5 v6 v7 v8) :=
    ev_op (vx 4 rfl) (ev_tup (ds := [.int 6, .int 7]) (evl_cons cx (evl_cons cx evl_nil)) (by have := sizeLine_eq; show 2 ≤ _; omega)).fz fun Q' q => ⟨rfl, by decide, _, rfl, by
      have : (pdL [.int 6, .int 7]).any (fun z => PyData.eqv z (D.int (k : Int)).pd) = (k == 6 || k == 7) := by
        show (((6 : Int) == (k : Int)) || (((7 : Int) == (k : Int)) || false)) = _
        rw [Bool.eq_iff_iff]
        simp only [Bool.or_eq_true, beq_iff_eq, Bool.false_eq_true, or_false]
        omega
      rw [this]
      exact q⟩
  exact ev_orb n1 (ev_orb (ev_andb (ev_eqi' (vx 4 rfl) cx (d1 k 6)) (ev_eqi' ln cx (d1 w 8))) (ev_andb (ev_eqi' (vx 4 rfl) cx (d1 k 7)) (ev_eqi' ln cx (d1 w 1))))
def S__law_refusals : FSpec := fun args Q _ => ∃ (g : O) (m w : Nat) (a b c d : List Int), args = [.ow g, .fz (.lst [rowD a, rowD b, rowD c, rowD d])] ∧ BagOk g (m : Int) ∧ m + 1 ≤ 100000 ∧ RwOk w [a, b, c, d] ∧ RowOk w (10 ^ 31) a ∧ ∀ g', BagOk g' ((m + 1 : Nat) : Int) → Q (.fz (.bl true)) [.ow g', .fz (.lst [rowD a, rowD b, rowD c, rowD d])]
theorem mS__law_refusals : MonoF S__law_refusals := ⟨fun h _ ⟨g, m, w, a, b, c, d, e, f, i, j, k, q⟩ => ⟨g, m, w, a, b, c, d, e, f, i, j, k, fun x y => h _ _ (q x y)⟩⟩
abbrev refB : SW := wSeq (wSet 6 (wOr (wOp2 gNotIn (wVar 4) (wTup (wCons (wC (.int 6)) (wCons (wC (.int 7)) wNil)))) (wOr (wAnd (wOp2 gEq (wVar 4) (wC (.int 6))) (wOp2 gEq (wBlt gLen (wCons (wVar 2) wNil)) (wC (.int 8)))) (wAnd (wOp2 gEq (wVar 4) (wC (.int 7))) (wOp2 gEq (wBlt gLen (wCons (wVar 2) wNil)) (wC (.int 1)))))))
  (wSeq (wSet 7 (wCall S__law_dues (wCons (wFrz (wVar 2)) (wCons (wFrz (wVar 5)) (wCons (wFrz (wVar 6)) wNil)))))
  (wFor (.n 8) (wRng1 (wCons (wC (.int 13)) wNil))
  (wIf (wB (wOp2 gNe (wCall S__law_called (wCons (wFrz (wVar 8)) (wCons (wFrz (wVar 1)) (wCons (wFrz (wVar 5)) wNil)))) (wOp2 gIx (wVar 7) (wVar 8))))
  (wRet [0] (wC (.bl false)))
  wSkip)))
theorem kp__law_refusals : Keeps S__law_refusals [0] 2 9 (w__law_refusals S__law_take S__law_odd S__law_dues S__law_called) where
  fit := fun args Q E ⟨_, _, _, _, _, _, _, a, _⟩ => a ▸ fitO2
  run := fun args Q E ⟨g, m, w, a, b, c, d, e, bg, hm, R, ra, q⟩ => by
    subst e
    unfold w__law_refusals
    have sz := sizeLine_eq
    have w1 := R.w1
    have w8 := R.w8
    have la := ra.len
    obtain ⟨A, hA⟩ : ∃ A, D.lst [rowD a, rowD b, rowD c, rowD d] = A := ⟨_, rfl⟩
    rw [hA] at q ⊢
    change wSeq _ _ _ [some (.ow g), some (.fz A), none, none, none, none, none, none, none]
    have e0 : EvR [some (.ow g), some (.fz A), none, none, none, none, none, none, none] (wOp2 gIx (wVar 1) (wC (.int 0))) (.fz (rowD a)) [some (.ow g), some (.fz A), none, none, none, none, none, none, none] := by
      subst hA
      exact ev_ixl 0 (vx 1 rfl) cx rfl
    refine seq_k fun K1 hn1 _ _ _ _ => run_set e0 (hn1 _ ?_)
    change wSeq _ _ _ [some (.ow g), some (.fz A), some (.fz (rowD a)), none, none, none, none, none, none]
    have dr := b_draw (rest := [some (.fz A), some (.fz (rowD a)), none, none, none, none, none, none]) (w : Int) (by omega) (by omega) (wn := wFrz (wBlt gLen (wCons (wVar 2) wNil))) fun o => by
      have := ev_lent (env := some (.ow o) :: [some (.fz A), some (.fz (rowD a)), none, none, none, none, none, none]) (ds := a.map D.int) (vx 2 rfl)
      rw [List.length_map, la] at this
      exact (ev_frz this.fz).fz
    refine seq_k fun K2 hn2 _ _ _ _ => b_set (i := 2) dr bg (by omega) fun d1 g1 hd bg1 => hn2 _ ?_
    obtain ⟨pI, rfl, p0, p1⟩ := hd
    obtain ⟨p, rfl⟩ := nat_of p0
    have hp : p < w := by omega
    change wSeq _ _ _ (E9r g1 A a p none none none none none)
    have txa : Txt1 (rowD a) := txt_row ra w8
    refine seq_k fun K3 hn3 hr3 _ _ _ => run_forR (n := 13) (evl_cons cx evl_nil) (by decide) ?_
    have er : rngD 0 13 = (List.range 13).map fun k : Nat => D.int (k : Int) := rfl
    rw [er]
    refine lp_body (g := fun k : Nat => D.int (k : Int)) (mk := fun v (p4 : Option Val × Option Val × Option Val × Option Val) => E9r g1 A a p v p4.1 p4.2.1 p4.2.2.1 p4.2.2.2) (fun _ _ _ => rfl) (List.range 13) none (none, none, none, none) (fun k hk K' p4 hrt hex hn => ?_) fun o p4 => hn3 _ ?_
    · obtain ⟨v5, v6, v7, v8⟩ := p4
      have hk := List.mem_range.mp hk
      obtain ⟨O, hO⟩ : ∃ O, oddD a p k = O := ⟨_, rfl⟩
      have OF : OddF w O (loneK w k) := by rw [← hO]; exact oddF ra w1 w8 hp hk
      have odd : EvR (E9r g1 A a p (some (.fz (.int (k : Int)))) v5 v6 v7 v8) (wCall S__law_odd (wCons (wFrz (wVar 2)) (wCons (wFrz (wVar 3)) (wCons (wFrz (wVar 4)) wNil)))) (oddR a p k) (E9r g1 A a p (some (.fz (.int (k : Int)))) v5 v6 v7 v8) :=
        ev_call (S := S__law_odd) (ds := [rowD a, .int p, .int k]) (evl_cons (fx 2 rfl) (evl_cons (fx 3 rfl) (evl_cons (fx 4 rfl) evl_nil))) (fun q => ⟨a, p, k, rfl, by omega, by omega, hk, q⟩) fun i z => by cases k <;> cases z
      have rest : ∀ u5 : Option Val, (Ev (E9r g1 A a p (some (.fz (.int (k : Int)))) u5 (some (.fz (.bl (loneK w k)))) v7 v8) (wFrz (wVar 5)) O (E9r g1 A a p (some (.fz (.int (k : Int)))) (some (.fz O)) (some (.fz (.bl (loneK w k)))) v7 v8)) → refB K' (E9r g1 A a p (some (.fz (.int (k : Int)))) u5 v6 v7 v8) := fun u5 f5 => by
        refine seq_k fun K4 hn4 _ _ _ _ => run_set (lone_ev la) (hn4 _ ?_)
        change wSeq _ _ _ (E9r g1 A a p (some (.fz (.int (k : Int)))) u5 (some (.fz (.bl (loneK w k)))) v7 v8)
        have dues : EvR (E9r g1 A a p (some (.fz (.int (k : Int)))) u5 (some (.fz (.bl (loneK w k)))) v7 v8) (wCall S__law_dues (wCons (wFrz (wVar 2)) (wCons (wFrz (wVar 5)) (wCons (wFrz (wVar 6)) wNil)))) (.ow (.lst (duesL (rowD a) O (loneK w k)))) (E9r g1 A a p (some (.fz (.int (k : Int)))) (some (.fz O)) (some (.fz (.bl (loneK w k)))) v7 v8) :=
          ev_call (S := S__law_dues) (ds := [rowD a, O, .bl (loneK w k)]) (evl_cons (fx 2 rfl) (evl_cons f5 (evl_cons (fx 6 rfl) evl_nil))) (fun q => ⟨_, _, _, rfl, txa, OF.tx, q⟩) fun i z => by cases z
        refine seq_k fun K5 hn5 _ _ _ _ => run_setO dues (hn5 _ ?_)
        change wFor _ _ _ _ (E9r g1 A a p (some (.fz (.int (k : Int)))) (some (.fz O)) (some (.fz (.bl (loneK w k)))) (some (.ow (.lst (duesL (rowD a) O (loneK w k))))) v8)
        refine run_forR (n := 13) (evl_cons cx evl_nil) (by decide) ?_
        rw [er]
        refine lp_body (g := fun k : Nat => D.int (k : Int)) (mk := fun v (_ : Unit) => E9r g1 A a p (some (.fz (.int (k : Int)))) (some (.fz O)) (some (.fz (.bl (loneK w k)))) (some (.ow (.lst (duesL (rowD a) O (loneK w k))))) v) (fun _ _ _ => rfl) (List.range 13) v8 () (fun n hn0 K6 _ _ _ hn6 => ?_) fun o _ => hn (_, _, _, _)
        have hn0 := List.mem_range.mp hn0
        obtain ⟨xs, hxs, okx⟩ := dues_get (l := loneK w k) txa OF.tx hn0
        generalize hD : duesL (rowD a) O (loneK w k) = DL at hxs hn6 ⊢
        have cl : EvR (E9r g1 A a p (some (.fz (.int (k : Int)))) (some (.fz O)) (some (.fz (.bl (loneK w k)))) (some (.ow (.lst DL))) (some (.fz (.int (n : Int))))) (wCall S__law_called (wCons (wFrz (wVar 8)) (wCons (wFrz (wVar 1)) (wCons (wFrz (wVar 5)) wNil)))) (.ow (.lst xs)) (E9r g1 A a p (some (.fz (.int (k : Int)))) (some (.fz O)) (some (.fz (.bl (loneK w k)))) (some (.ow (.lst DL))) (some (.fz (.int (n : Int))))) :=
          ev_call (S := S__law_called) (ds := [.int n, A, O]) (evl_cons (fx 8 rfl) (evl_cons (fx 1 rfl) (evl_cons (fx 5 rfl) evl_nil))) (fun q => ⟨a, b, c, d, w, n, O, loneK w k, by rw [hA]; rfl, R, txa.sh, OF, hn0, fun l hl => by
            rw [hD, hxs] at hl
            cases hl
            exact q⟩) fun i z => by cases z
        have ix : EvR (E9r g1 A a p (some (.fz (.int (k : Int)))) (some (.fz O)) (some (.fz (.bl (loneK w k)))) (some (.ow (.lst DL))) (some (.fz (.int (n : Int))))) (wOp2 gIx (wVar 7) (wVar 8)) (.fz (.lst xs)) (E9r g1 A a p (some (.fz (.int (k : Int)))) (some (.fz O)) (some (.fz (.bl (loneK w k)))) (some (.ow (.lst DL))) (some (.fz (.int (n : Int))))) :=
          ev_opS (o := .lst DL) rfl (vx 8 rfl) rfl fun Q' q => ix_l hxs q
        exact run_if_f (evt_B (ev_neSelf cl.ow ix.fz okx)) (hn6 ())
      refine seq_k fun K4 hn4 hr4 _ _ _ => ?_
      cases k with
      | zero => 
        refine run_setO odd (hn4 _ (rest _ ?_))
        subst hO
        exact (ev_frzs (i := 5) (o := .lst (a.map D.int)) rfl).fz
      | succ k => 
        refine run_set odd (hn4 _ (rest _ ?_))
        subst hO
        exact fx 5 rfl
    · obtain ⟨v5, v6, v7, v8⟩ := p4
      refine run_ret (d := .bl true) ev_c ?_
      exact ⟨_, rfl, q g1 bg1⟩
end LV
namespace LV
open PySem PySem.Spec L2
section
variable {env e1 : En} {w wa : EW} {wl : AW} {i : Nat} {a : Addr} {C Cn f : Str} {ks : List Str} {vs ds : List D} {d : D} {Cs : List (Str × Bool)} {Es : List Str} {b : Bool} {u : TW} {n : Nat} {g : GX}
theorem ev_isX (h : env[i]? = some (some (.ex a C ks vs))) (hl : Cs.lookup C = some b) : EvR env (wIsX i Cs) (.fz (.bl b)) env := ⟨fun {Q E} q => by
  simp only [wIsX, h]
  exact ⟨b, hl, q⟩⟩
theorem ev_isV (h : Ev env w (.exn C ks vs) e1) (hl : Cs.lookup C = some b) : EvR env (wIsV Cs w) (.fz (.bl b)) e1 := ⟨fun q => h.go ⟨C, ks, vs, b, rfl, hl, q⟩⟩
theorem ev_xf (h : Ev env w (.exn C ks vs) e1) (hC : C ∈ Es) (hk : kvD ks vs f = some d) : EvR env (wXf f Es w) (.fz d) e1 := ⟨fun q => h.go ⟨C, ks, vs, d, rfl, hC, hk, q⟩⟩
theorem ev_mkX (hl : EvL env wl ds e1) (hg : ∀ Q : List Str → List D → Prop, Q ks vs → g ds Q) : EvR env (wMkX Cn g wl) (.fz (.exn Cn ks vs)) e1 := ⟨fun q => hl.go ⟨ds, e1, frzL_fz' ds, hg _ q⟩⟩
theorem lc_filtR (p : Nat → Bool) (hl : EvL env wl [.int (n : Int)] e1) (hn : n ≤ 900) (he : ∀ k, k < n → EvT ((e1.set i none).set i (some (.fz (.int (k : Int))))) u (p k) ((e1.set i none).set i (some (.fz (.int (k : Int)))))) (hv : ∀ k, k < n → Ev ((e1.set i none).set i (some (.fz (.int (k : Int))))) w (.int (k : Int)) ((e1.set i none).set i (some (.fz (.int (k : Int)))))) :
    EvR env (wLc (.n i) (wRng1 wl) u w [i]) (.ow (.lst (((List.range n).filter p).map fun k : Nat => D.int (k : Int)))) (e1.set i none) :=
  ev_lcR hl (by omega) fun Q q => by
    have sz := sizeLine_eq
    have e : rngD 0 n = (List.range n).map fun k : Nat => D.int (k : Int) := by rw [rng_eq]; exact List.map_congr_left fun k _ => by rw [Int.zero_add]
    rw [e]
    simp only [wipeE]
    refine cw_fm (fun d => match d with | .int j => p j.toNat | _ => false) id True.intro _ [] (fun d hd => ?_) (by rw [List.length_map, List.length_range]; show 0 + n < _; omega) ?_
    · obtain ⟨k, hk, rfl⟩ := List.mem_map.mp hd
      have hk := List.mem_range.mp hk
      exact ⟨_, rfl, by simp only [wipeE, List.set_set], fun G z => (he k hk).go (by simpa using z), fun _ G z => (hv k hk).go z⟩
    · rw [List.nil_append, List.map_id, List.filter_map]
      exact q
end
theorem lookup_map {α : Type} {f : Str → α} {C : Str} : ∀ {Es : List Str}, C ∈ Es → (Es.map fun C => (C, f C)).lookup C = some (f C)
  | [], h => nomatch h
  | x :: Es, h => by
    rw [List.map_cons]
    unfold List.lookup
    by_cases e : C = x
    · subst e; rw [beq_self_eq_true]
    · rw [beq_false_of_ne e]
      exact lookup_map ((List.mem_cons.mp h).resolve_left e)
def S__law_caught : FSpec := fun args Q _ => ∃ o : D, args = [.fz o] ∧ o.plain = true ∧ Q (.fz (.bl (!isRowD o (.int 1)))) args
theorem mS__law_caught : MonoF S__law_caught := ⟨fun h _ ⟨o, a, b, q⟩ => ⟨o, a, b, h _ _ q⟩⟩
theorem kp__law_caught : Keeps S__law_caught [] 1 2 (w__law_caught S_check_row) where
  fit := fun args Q E ⟨_, a, _⟩ => a ▸ fit1
  run := fun args Q E ⟨o, e, po, q⟩ => by
    subst e
    unfold w__law_caught
    change wSeq _ _ _ [some (.fz o), none]
    refine seq_k fun K2 hn2 hr2 _ _ _ => try_k fun K3 hn3 _ _ _ hex _ => ?_
    cases h : isRowD o (.int 1) with
    | false =>
      rw [h] at q
      refine (evx_check (env := [some (.fz o), none]) (n := 1) (fx 0 rfl) cx po h).go (hex _ _ rfl rfl fun x => ?_)
      refine run_ret (d := .bl true) (ev_and_t (ev_isX (C := "InvalidRow") (ks := ["value"]) (vs := [o]) (b := true) rfl rfl) (ev_isX (C := "InvalidRow") (ks := ["value"]) (vs := [o]) (b := true) rfl rfl)) ⟨rfl, ?_⟩
      rw [hr2]
      exact ⟨_, rfl, q⟩
    | true =>
      rw [h] at q
      have ck : EvR [some (.fz o), none] (wCall S_check_row (wCons (wFrz (wVar 0)) (wCons (wC (.int 1)) wNil))) (.fz .non) [some (.fz o), none] :=
        ev_call (S := S_check_row) (ds := [o, .int 1]) (evl_cons (fx 0 rfl) (evl_cons cx evl_nil)) (fun q => ⟨o, .int 1, rfl, po, .inr ⟨_, rfl⟩, fun _ => q, fun z => by rw [h] at z; cases z⟩) fun _ z => by cases z
      refine ck.go ?_
      rw [hn3]
      refine hn2 _ ?_
      exact run_ret (d := .bl false) ev_c ⟨_, rfl, q⟩
def xvG (k : Nat) : Str := xvE.getD k Str.empty
theorem xv_get {k : Nat} (hk : k < 24) : xvG k ∈ xvE := by
  unfold xvG
  rw [List.getD_eq_getElem?_getD, List.getElem?_eq_getElem (by exact hk)]
  exact List.getElem_mem _
theorem xv_eq : ∀ k < 24, ∀ j < 24, (xvG k == xvG j) = decide (j = k) := by decide +kernel
theorem rng_one : ∀ k < 24, (List.range 24).filter (fun j => decide (j = k)) = [k] := by decide +kernel
theorem xv_map : xvE = (List.range 24).map xvG := by decide +kernel
section
variable {C : Str} {ks : List Str} {vs : List D} {v2 : Option Val}
abbrev E3k (C : Str) (ks : List Str) (vs : List D) (v1 v2 : Option Val) : En := [some (.fz (.exn C ks vs)), v1, v2]
theorem isN_ev {x : Str} {v1 : Option Val} (hC : C ∈ xvE) : Ev (E3k C ks vs v1 v2) (wIsV (xvN xvE x) (wVar 0)) (.bl (C == x)) (E3k C ks vs v1 v2) :=
  (ev_isV (vx 0 rfl) (lookup_map (f := fun C => C == x) hC)).fz
theorem three_ev {x y z : Str} {v1 : Option Val} (hC : C ∈ xvE) : EvR (E3k C ks vs v1 v2) (wLst (wCons (wIsV (xvN xvE x) (wVar 0)) (wCons (wIsV (xvN xvE y) (wVar 0)) (wCons (wIsV (xvN xvE z) (wVar 0)) wNil)))) (.ow (.lst [.bl (C == x), .bl (C == y), .bl (C == z)])) (E3k C ks vs v1 v2) :=
  ev_lst (ds := [.bl (C == x), .bl (C == y), .bl (C == z)]) (evl_cons (isN_ev hC) (evl_cons (isN_ev hC) (evl_cons (isN_ev hC) evl_nil))) (by have := sizeLine_eq; show 3 ≤ _; omega)
theorem add_ev {x y z : Str} {L : List D} (hC : C ∈ xvE) (hl : L.length ≤ 100) : EvR (E3k C ks vs (some (.ow (.lst L))) v2) (wOp2 gAdd (wVar 1) (wLst (wCons (wIsV (xvN xvE x) (wVar 0)) (wCons (wIsV (xvN xvE y) (wVar 0)) (wCons (wIsV (xvN xvE z) (wVar 0)) wNil))))) (.ow (.lst (L ++ [.bl (C == x), .bl (C == y), .bl (C == z)]))) (E3k C ks vs (some (.ow (.lst L))) v2) :=
  ev_opS (o := .lst L) rfl (three_ev hC).ow rfl fun Q' q => ⟨by have := sizeLine_eq; show L.length + 3 ≤ _; omega, q⟩
end
def S__law_kinds : FSpec := fun args Q _ => ∃ (k : Nat) (ks : List Str) (vs : List D), args = [.fz (.exn (xvG k) ks vs)] ∧ k < 24 ∧ Q (.ow (.lst [.int (k : Int)])) args
theorem mS__law_kinds : MonoF S__law_kinds := ⟨fun h _ ⟨k, a, b, c, d, q⟩ => ⟨k, a, b, c, d, h _ _ q⟩⟩
theorem kp__law_kinds : Keeps S__law_kinds [] 1 3 w__law_kinds where
  fit := fun args Q E ⟨_, _, _, a, _⟩ => a ▸ fit1
  run := fun args Q E ⟨k, ks, vs, e, hk, q⟩ => by
    subst e
    unfold w__law_kinds
    have sz := sizeLine_eq
    have hC := xv_get hk
    obtain ⟨C, hCe⟩ : ∃ C, xvG k = C := ⟨_, rfl⟩
    have big : (xvE.map fun x => D.bl (C == x)) = (List.range 24).map fun j => D.bl (decide (j = k)) := by
      rw [xv_map, List.map_map]
      refine List.map_congr_left fun j hj => ?_
      show D.bl (C == xvG j) = _
      rw [← hCe, xv_eq k hk j (List.mem_range.mp hj)]
    rw [hCe] at hC q ⊢
    change wSeq _ _ _ (E3k C ks vs none none)
    have isA : EvT (E3k C ks vs none none) (wTru (wIsV (xvA xvE) (wVar 0))) true (E3k C ks vs none none) := evt_trub (ev_isV (vx 0 rfl) (lookup_map (f := fun _ => true) hC))
    refine sk_f (evt_or_f (evt_not isA) (evt_not isA)) ?_
    refine seq_k fun K1 hn1 _ _ _ _ => run_setO (three_ev hC) (hn1 _ ?_)
    refine seq_k fun K2 hn2 _ _ _ _ => run_setO (add_ev (v2 := none) hC (Nat.le_of_ble_eq_true rfl)) (hn2 _ ?_)
    refine seq_k fun K3 hn3 _ _ _ _ => run_setO (add_ev (v2 := none) hC (Nat.le_of_ble_eq_true rfl)) (hn3 _ ?_)
    refine seq_k fun K4 hn4 _ _ _ _ => run_setO (add_ev (v2 := none) hC (Nat.le_of_ble_eq_true rfl)) (hn4 _ ?_)
    refine seq_k fun K5 hn5 _ _ _ _ => run_setO (add_ev (v2 := none) hC (Nat.le_of_ble_eq_true rfl)) (hn5 _ ?_)
    refine seq_k fun K6 hn6 _ _ _ _ => run_setO (add_ev (v2 := none) hC (Nat.le_of_ble_eq_true rfl)) (hn6 _ ?_)
    refine seq_k fun K7 hn7 _ _ _ _ => run_setO (add_ev (v2 := none) hC (Nat.le_of_ble_eq_true rfl)) (hn7 _ ?_)
    refine seq_k fun K8 hn8 _ _ _ _ => run_setO (add_ev (v2 := none) hC (Nat.le_of_ble_eq_true rfl)) (hn8 _ ?_)
    change wRet _ _ _ (E3k C ks vs (some (.ow (.lst (xvE.map fun x => D.bl (C == x))))) none)
    rw [big]
    have fin := lc_filtR (env := E3k C ks vs (some (.ow (.lst ((List.range 24).map fun j => D.bl (decide (j = k)))))) none) (i := 2) (n := 24) (u := wTru (wOp2 gIx (wVar 1) (wVar 2))) (w := wVar 2) (wl := wCons (wC (.int 24)) wNil) (e1 := E3k C ks vs (some (.ow (.lst ((List.range 24).map fun j => D.bl (decide (j = k)))))) none) (fun j => decide (j = k)) (evl_cons cx evl_nil) (by decide) (fun j hj => evt_trub (ev_opS (o := .lst ((List.range 24).map fun j => D.bl (decide (j = k)))) rfl (vx 2 rfl) rfl fun Q' q => ix_l (by rw [List.getElem?_map, List.getElem?_range hj]; rfl) q)) (fun j hj => vx 2 rfl)
    rw [rng_one k hk] at fin
    refine run_retO fin ⟨_, rfl, q⟩
abbrev exV (d : D) (k : Nat) : D := .exn (xvG k) ["value"] [d]
def S__law_valued : FSpec := fun args Q _ => ∃ d : D, args = [.fz d] ∧ Txt1 d ∧ Q (.fz (.bl true)) args
theorem mS__law_valued : MonoF S__law_valued := ⟨fun h _ ⟨o, a, b, q⟩ => ⟨o, a, b, h _ _ q⟩⟩
theorem ev_kinds {env e1 : En} {w : EW} {k : Nat} {ks : List Str} {vs : List D} (h : Ev env w (.exn (xvG k) ks vs) e1) (hk : k < 24) : EvR env (wCall S__law_kinds (wCons w wNil)) (.ow (.lst [.int (k : Int)])) e1 :=
  ev_call (S := S__law_kinds) (ds := [.exn (xvG k) ks vs]) (evl_cons h evl_nil) (fun q => ⟨k, ks, vs, rfl, hk, q⟩) fun i z => by cases z
theorem okD_one (k : Nat) : OkD 1 (.lst [.int (k : Int)]) := okD_lst (by decide) fun d hd => by rw [List.mem_singleton.mp hd]; exact okD_int
theorem xv13 : ∀ k < 13, xvG k ∈ (["InvalidName", "InvalidRow", "InvalidBox", "InvalidGroup", "InvalidScene", "InvalidTarget", "InvalidDeed", "InvalidStart", "InvalidWeights", "InvalidLine", "InvalidFilling", "InvalidFact", "NotPossible"] : List Str) := by decide +kernel
theorem kp__law_valued : Keeps S__law_valued [] 1 4 (w__law_valued S__law_kinds) where
  fit := fun args Q E ⟨_, a, _⟩ => a ▸ fit1
  run := fun args Q E ⟨d, e, td, q⟩ => by
    subst e
    unfold w__law_valued
    have sz := sizeLine_eq
    change wSeq _ _ _ [some (.fz d), none, none, none]
    have mk : ∀ {C : Str} {v1 v2 v3 : Option Val}, Ev [some (.fz d), v1, v2, v3] (wMkX C (gX1 "value") (wCons (wFrz (wVar 0)) wNil)) (.exn C ["value"] [d]) [some (.fz d), v1, v2, v3] := (ev_mkX (ds := [d]) (evl_cons (fx 0 rfl) evl_nil) fun Q q => ⟨d, rfl, q⟩).fz
    refine seq_k fun K1 hn1 _ _ _ _ => run_setO (ev_lst (ds := [.exn "InvalidName" ["value"] [d], .exn "InvalidRow" ["value"] [d], .exn "InvalidBox" ["value"] [d], .exn "InvalidGroup" ["value"] [d], .exn "InvalidScene" ["value"] [d]]) (evl_cons mk (evl_cons mk (evl_cons mk (evl_cons mk (evl_cons mk evl_nil))))) (by show 5 ≤ _; omega)) (hn1 _ ?_)
    refine seq_k fun K2 hn2 _ _ _ _ => run_setO (ev_opS (i := 1) (o := .lst _) rfl (ev_lst (ds := [.exn "InvalidTarget" ["value"] [d], .exn "InvalidDeed" ["value"] [d], .exn "InvalidStart" ["value"] [d], .exn "InvalidWeights" ["value"] [d]]) (evl_cons mk (evl_cons mk (evl_cons mk (evl_cons mk evl_nil)))) (by show 4 ≤ _; omega)).ow rfl fun Q' q => ⟨by show 5 + 4 ≤ _; omega, q⟩) (hn2 _ ?_)
    refine seq_k fun K3 hn3 _ _ _ _ => run_setO (ev_opS (i := 1) (o := .lst _) rfl (ev_lst (ds := [.exn "InvalidLine" ["value"] [d], .exn "InvalidFilling" ["value"] [d], .exn "InvalidFact" ["value"] [d], .exn "NotPossible" ["value"] [d]]) (evl_cons mk (evl_cons mk (evl_cons mk (evl_cons mk evl_nil)))) (by show 4 ≤ _; omega)).ow rfl fun Q' q => ⟨by show 9 + 4 ≤ _; omega, q⟩) (hn3 _ ?_)
    change wSeq _ _ _ [some (.fz d), some (.ow (.lst ((List.range 13).map (exV d)))), none, none]
    have reps : EvR [some (.fz d), some (.ow (.lst ((List.range 13).map (exV d)))), none, none] (wLc (.n 2) (wIt [] (wVar 1)) uYes (wBlt gRepr (wCons (wXf "value" ["InvalidName", "InvalidRow", "InvalidBox", "InvalidGroup", "InvalidScene", "InvalidTarget", "InvalidDeed", "InvalidStart", "InvalidWeights", "InvalidLine", "InvalidFilling", "InvalidFact", "NotPossible"] (wVar 2)) wNil)) [2]) (.ow (.lst ((List.range 13).map fun _ => D.str d.pd.shown))) [some (.fz d), some (.fz (.lst ((List.range 13).map (exV d)))), none, none] :=
      lc_mapS (k := 1) (i := 2) (g := exV d) (f := fun _ => D.str d.pd.shown) (xs := List.range 13) rfl (fun k hk => (ev_repr (ev_xf (C := xvG k) (ks := ["value"]) (vs := [d]) (vx 2 rfl) (xv13 k (List.mem_range.mp hk)) rfl).fz td.sh).fz) (by decide)
    have r13 : EvR [some (.fz d), some (.fz (.lst ((List.range 13).map (exV d)))), none, none] (wOp2 gMulT (wLst (wCons (wBlt gRepr (wCons (wVar 0) wNil)) wNil)) (wC (.int 13))) (.ow (.lst (List.replicate 13 (.str d.pd.shown)))) [some (.fz d), some (.fz (.lst ((List.range 13).map (exV d)))), none, none] := by
      have := ev_mulL 13 (env := [some (.fz d), some (.fz (.lst ((List.range 13).map (exV d)))), none, none]) (ds := [.str d.pd.shown]) (ev_l1 (ev_repr (vx 0 rfl) td.sh).fz).ow (by show 1 * 13 ≤ 1000; decide) (by decide)
      rw [fl_one] at this
      exact this
    have okr : (D.lst (List.replicate 13 (.str d.pd.shown))).okE = true := (okD_lst (n := 0) (by decide) fun x hx => by rw [List.eq_of_mem_replicate hx]; exact okD_str td.ok).e
    refine sk_f (evt_B (ev_neSelf reps.ow r13.ow okr)) ?_
    have kin : EvR [some (.fz d), some (.fz (.lst ((List.range 13).map (exV d)))), none, none] (wLc (.n 2) (wIt [] (wVar 1)) uYes (wCall S__law_kinds (wCons (wFrz (wVar 2)) wNil)) [2]) (.ow (.lst ((List.range 13).map fun k : Nat => D.lst [.int (k : Int)]))) [some (.fz d), some (.fz (.lst ((List.range 13).map (exV d)))), none, none] :=
      lc_mapL (i := 2) (pn := []) (g := exV d) (f := fun k : Nat => D.lst [.int (k : Int)]) (xs := List.range 13) (ev_var rfl) rfl (fun k hk => (ev_kinds (fx 2 rfl) (by have := List.mem_range.mp hk; omega)).ow) (by decide)
    have rk : EvR [some (.fz d), some (.fz (.lst ((List.range 13).map (exV d)))), none, none] (wLc (.n 3) (wRng1 (wCons (wC (.int 13)) wNil)) uYes (wLst (wCons (wVar 3) wNil)) [3]) (.ow (.lst ((List.range 13).map fun k : Nat => D.lst [.int (k : Int)]))) [some (.fz d), some (.fz (.lst ((List.range 13).map (exV d)))), none, none] :=
      lc_rngL (n := 13) (f := fun k : Nat => D.lst [.int (k : Int)]) (evl_cons cx evl_nil) (by decide) fun k hk => (ev_l1 (vx 3 rfl)).ow
    have okk : (D.lst ((List.range 13).map fun k : Nat => D.lst [.int (k : Int)])).okE = true := (okD_lst (n := 1) (by decide) fun x hx => by
      obtain ⟨k, _, rfl⟩ := List.mem_map.mp hx
      exact okD_one k).e
    exact run_ret (ev_eqSelf kin.ow rk.ow okk) ⟨_, rfl, q⟩
end LV
namespace LV
open PySem PySem.Spec L2
structure WordOk (s : Str) : Prop where
  sg : SgOk s
  l : s.length ≤ 100
theorem bo_lcD {rest : List (Option Val)} {wl : AW} {w : EW} {P : D → Prop} {c c1 i K : Nat} {restf : Option Val → List (Option Val)} (hr : rest = restf none) (h1 : ∀ v v', (restf v).set i v' = restf v') (hl : EvBL rest wl (fun ds => ∃ k : Nat, ds = [.int (k : Int)] ∧ k ≤ K) c1) (hK : K ≤ 900) (hw : ∀ x : Int, EvB (restf (some (.fz (.int x)))) w P c) :
    EvBO rest (wLc (.n (i + 1)) (wRng1 wl) uYes w [i + 1]) (fun d => ∃ ds, d = .lst ds ∧ ds.length ≤ K ∧ ∀ x ∈ ds, P x) (c1 + c * K) := ⟨fun {o m Q E} bg hm q => by
  subst hr
  refine hl.go (m := m) bg (by omega) fun ds o1 ⟨k, hd, hk⟩ b1 => ?_
  subst hd
  have hck : c * k ≤ c * K := Nat.mul_le_mul_left c hk
  refine ⟨(k : Int), rfl, by unfold okR; omega, ?_⟩
  rw [Int.toNat_natCast]
  have e : wipeE (some (.ow o1) :: restf none) [i + 1] = some (.ow o1) :: restf none := by
    simp only [wipeE, List.set_cons_succ]
    rw [h1]
  show compW (.n (i + 1)) uYes w [i + 1] yesK (fun acc e' => Q (Rv.ow (O.lst acc)) e') (rngD 0 k) [] (wipeE (some (.ow o1) :: restf none) [i + 1])
  rw [e]
  exact comp_b h1 hw k 0 [] o1 (m + c1) (fun _ z => nomatch z) b1 (by omega) (by rw [List.length_nil]; omega) fun ds o' a p b => q _ o' ⟨ds, rfl, by rw [List.length_nil] at a; omega, p⟩ (b.mono (by omega))⟩
theorem app_cps (a b : Str) : (a ++ b).cps.toList = a.cps.toList ++ b.cps.toList := by
  show (a.cps ++ b.cps).toList = _
  rw [Array.toList_append]
theorem join_cs : ∀ cs : List Nat, (Txt.join "" (cs.map fun c => (⟨#[c]⟩ : Str))).cps.toList = cs := fun cs => by
  rw [beq_iff_eq.mp (PyProof.Rows.join_plain_closes "" (cs.map fun c => (⟨#[c]⟩ : Str)))]
  induction cs with
  | nil => rfl
  | cons c cs ih =>
    cases cs with
    | nil => rfl
    | cons d cs =>
      have e : Str.join "" ((c :: d :: cs).map fun c => (⟨#[c]⟩ : Str)) = (⟨#[c]⟩ : Str) ++ "" ++ Str.join "" ((d :: cs).map fun c => (⟨#[c]⟩ : Str)) := rfl
      rw [e, app_cps, app_cps, ih]
      rfl
def LET : Str := "abcdefghijklmnopqrstuvwxyz"
theorem let_len : LET.cps.toList.length = 26 := by decide +kernel
theorem let_lt : ∀ c ∈ LET.cps.toList, c < 128 := by decide +kernel
def ChD (d : D) : Prop := ∃ c : Nat, d = .str ⟨#[c]⟩ ∧ c < 128
theorem chs_of : ∀ {ds : List D}, (∀ d ∈ ds, ChD d) → ∃ cs : List Nat, ds = (cs.map fun c => (⟨#[c]⟩ : Str)).map D.str ∧ ∀ c ∈ cs, c < 128
  | [], _ => ⟨[], rfl, fun _ z => nomatch z⟩
  | d :: ds, h => by
    obtain ⟨c, rfl, hc⟩ := h d List.mem_cons_self
    obtain ⟨cs, rfl, hs⟩ := chs_of fun x hx => h x (List.mem_cons_of_mem _ hx)
    exact ⟨c :: cs, rfl, fun x hx => by
      rcases List.mem_cons.mp hx with rfl | z
      · exact hc
      · exact hs x z⟩
theorem sum_ones (cs : List Nat) : ((cs.map fun c => (⟨#[c]⟩ : Str)).map (·.length)).sum = cs.length := by
  induction cs with
  | nil => rfl
  | cons c cs ih =>
    rw [List.map_cons, List.map_cons, List.sum_cons, ih, List.length_cons]
    show 1 + _ = _
    omega
def S__law_word : FSpec := fun args Q _ => ∃ (o : O) (m : Nat), args = [.ow o] ∧ BagOk o (m : Int) ∧ m + 14 ≤ 100000 ∧ ∀ s o', WordOk s → BagOk o' ((m + 14 : Nat) : Int) → Q (.fz (.str s)) [.ow o']
theorem mS__law_word : MonoF S__law_word := ⟨fun h _ ⟨o, m, a, b, c, q⟩ => ⟨o, m, a, b, c, fun x y h1 h2 => h _ _ (q x y h1 h2)⟩⟩
theorem kp__law_word : Keeps S__law_word [0] 1 3 (w__law_word S__law_take) where
  fit := fun args Q E ⟨_, _, a, _⟩ => a ▸ fitO1
  run := fun args Q E ⟨o, m, e, bg, hm, q⟩ => by
    subst e
    unfold w__law_word
    have sz := sizeLine_eq
    change wSeq _ _ _ [some (.ow o), none, none]
    refine seq_k fun K1 hn1 _ _ _ _ => run_set (d := .str LET) ev_c (hn1 _ ?_)
    change wRet _ _ _ [some (.ow o), some (.fz (.str LET)), none]
    have ch : ∀ x : Int, EvB [some (.fz (.str LET)), some (.fz (.int x))] (wOp2 gIx (wVar 1) (wCall S__law_take (wCons (wVar 0) (wCons (wC (.int 26)) wNil)))) ChD (0 + 1) := fun x =>
      b_op (P1 := fun d => d = .str LET) (b_var 0 rfl rfl) (bDr _ 26) fun a b ea ⟨i, eb, i0, i1⟩ Q' q => by
        subst ea eb
        obtain ⟨c, hc, hm⟩ := at_in (l := LET.cps.toList) i0 (by rw [let_len]; exact i1)
        exact ⟨by rw [sz]; decide +kernel, c, hc, q _ ⟨c, rfl, let_lt c hm⟩⟩
    have rg : EvBL [some (.fz (.str LET)), none] (wCons (wOp2 gAdd (wC (.int 1)) (wCall S__law_take (wCons (wVar 0) (wCons (wC (.int 12)) wNil)))) wNil) (fun ds => ∃ k : Nat, ds = [.int (k : Int)] ∧ k ≤ 12) (0 + 1 + 0) :=
      bl_w (bl_cons (P := fun d => ∃ i : Int, d = .int i ∧ 1 ≤ i ∧ i ≤ 12) (b_op (P1 := fun d => d = .int 1) (b_c rfl) (bDr _ 12) fun a b ea ⟨i, eb, i0, i1⟩ Q' q => by
        subst ea eb
        rw [gAdd_ii]
        exact q _ ⟨_, rfl, by omega, by omega⟩) bl_nil) fun ds ⟨d, t, e, ⟨i, e1, i0, i1⟩, et⟩ => by
        subst e e1 et
        obtain ⟨k, rfl⟩ := nat_of (i := i) (by omega)
        exact ⟨k, rfl, by omega⟩
    have lc := bo_lcD (i := 1) (restf := fun v => [some (.fz (.str LET)), v]) (K := 12) rfl (fun _ _ => rfl) rg (by decide) ch
    unfold wRet wJoin
    refine cx.go ⟨"", rfl, ?_⟩
    refine lc.go (m := m) bg (by omega) fun d o' ⟨ds, hd, hl, hx⟩ b => ?_
    subst hd
    obtain ⟨cs, rfl, hc⟩ := chs_of hx
    rw [List.length_map, List.length_map] at hl
    have e0 : ("" : Str).length = 0 := by decide +kernel
    refine ⟨cs.map fun c => (⟨#[c]⟩ : Str), rfl, by rw [sum_ones, e0]; omega, ?_⟩
    refine ⟨_, rfl, q _ o' ⟨fun c hc' => ?_, ?_⟩ (b.mono (by omega))⟩
    · rw [join_cs] at hc'
      have := hc c hc'
      omega
    · show (Txt.join "" (cs.map fun c => (⟨#[c]⟩ : Str))).cps.size ≤ 100
      rw [← Array.length_toList, join_cs]
      omega
end LV
namespace LV
open PySem PySem.Spec L2
theorem lenA (a b : Str) : (a ++ b).length = a.length + b.length := Array.size_append
theorem lenE : (Str.empty : Str).length = 0 := rfl
theorem m1_ok {c1 c2 s : Str} (h1 : c1.length ≤ 100) (h2 : c2.length ≤ 100) (h : s.length ≤ 100) : okMsg1 c1 c2 s := by
  have sz := sizeLine_eq
  unfold okMsg1
  simp only [lenA, lenE]
  omega
theorem mE_ok {c1 s : Str} (h1 : c1.length ≤ 100) (h : s.length ≤ 100) : okMsgE c1 s := by
  have sz := sizeLine_eq
  unfold okMsgE
  simp only [lenA, lenE]
  omega
theorem m2_ok {c1 c2 c3 s t : Str} (h1 : c1.length ≤ 100) (h2 : c2.length ≤ 100) (h3 : c3.length ≤ 100) (h : s.length ≤ 100) (ht : t.length ≤ 100) : okMsg c1 c2 c3 s t := by
  have sz := sizeLine_eq
  unfold okMsg
  simp only [lenA, lenE]
  omega
theorem int_len {i : Int} (h : i.natAbs < 10 ^ 32) : (toString i : Str).length ≤ 100 := by
  have h1 := PySem.int_text_length_le10 (a := i) (k := 32) (by decide) h
  have e : (toString i : Str).length = (toString i : String).length := PySem.ofString_length _
  omega
theorem log_32 {n : Nat} (h : n < 10 ^ 32) : n.log2 < 1920 := by
  have := log2_40 (n := n) (Nat.lt_of_lt_of_le h (by decide))
  omega
theorem txt_word {s : Str} (h : WordOk s) : Txt1 (.str s) := txt_tidy ⟨by
  show (s.cps.toList.all (fun c => decide (c < 16 ^ 8)) && decide (s.cps.size ≤ 100)) = true
  have l : s.cps.size ≤ 100 := h.l
  rw [decide_eq_true l, Bool.and_true]
  exact List.all_eq_true.mpr fun c hc => decide_eq_true (by have := h.sg c hc; omega), by show 1 ≤ 30; decide⟩ h.sg
abbrev gP (p : Nat × List Str × List D) : D := .exn (xvG p.1) p.2.1 p.2.2
section
variable {env : En} {i j : Nat} {f : Str} {Es : List Str} {d : D} {xs : List (Nat × List Str × List D)}
/-- the fields of some errors in a list of one's own -/
theorem reps_own (h : env[i]? = some (some (.ow (.lst (xs.map gP))))) (hx : ∀ p ∈ xs, xvG p.1 ∈ Es ∧ kvD p.2.1 p.2.2 f = some d) (hd : d.Shows) (hl : xs.length < 1000) (hj : j < env.length) :
    EvR env (wLc (.n j) (wIt [] (wVar i)) uYes (wBlt gRepr (wCons (wXf f Es (wVar j)) wNil)) [j]) (.ow (.lst (xs.map fun _ => D.str d.pd.shown))) ((env.set i (some (.fz (.lst (xs.map gP))))).set j none) :=
  lc_mapS (k := i) (i := j) (g := gP) (f := fun _ => D.str d.pd.shown) h (fun p hp => (ev_repr (ev_xf (C := xvG p.1) (vx j (by rw [List.getElem?_set_self (by simpa using hj)])) (hx p hp).1 (hx p hp).2).fz hd).fz) hl
theorem kinds_fz (h : env[i]? = some (some (.fz (.lst (xs.map gP))))) (hx : ∀ p ∈ xs, p.1 < 24) (hl : xs.length < 1000) (hj : j < env.length) :
    EvR env (wLc (.n j) (wIt [] (wVar i)) uYes (wCall S__law_kinds (wCons (wFrz (wVar j)) wNil)) [j]) (.ow (.lst (xs.map fun p => D.lst [.int (p.1 : Int)]))) (env.set j none) :=
  lc_mapL (i := j) (pn := []) (g := gP) (f := fun p => D.lst [.int (p.1 : Int)]) (ev_var h) rfl (fun p hp => (ev_kinds (fx j (by rw [List.getElem?_set_self (by simpa using hj)])) (hx p hp)).ow) hl
end
theorem okD_kinds {ks : List Nat} : (D.lst (ks.map fun k : Nat => D.lst [.int (k : Int)])).okE = true := (okD_lst (n := 1) (by decide) fun x hx => by
  obtain ⟨k, _, rfl⟩ := List.mem_map.mp hx
  exact okD_one k).e
theorem okD_reps {k : Nat} {s : Str} (h : SgOk s) : (D.lst (List.replicate k (.str s))).okE = true := (okD_lst (n := 0) (by decide) fun x hx => by rw [List.eq_of_mem_replicate hx]; exact okD_str h).e
theorem mP : ∀ k, 13 ≤ k → k < 16 → xvG k ∈ (["InvalidMachine", "InvalidSketch", "UnlikeFrames"] : List Str) := fun k h1 h2 => by
  rcases (by omega : k = 13 ∨ k = 14 ∨ k = 15) with rfl | rfl | rfl <;> decide +kernel
theorem mN : ∀ k, k = 16 ∨ k = 17 ∨ k = 20 → xvG k ∈ (["UnknownName", "DeedRefused", "CallsPresent"] : List Str) := fun k h => by
  rcases h with rfl | rfl | rfl <;> decide +kernel
def S__law_others : FSpec := fun args Q _ => ∃ (n : Int) (s : Str), args = [.fz (.int n), .fz (.str s)] ∧ 0 ≤ n ∧ n < 10 ^ 30 ∧ WordOk s ∧ Q (.fz (.bl true)) args
theorem mS__law_others : MonoF S__law_others := ⟨fun h _ ⟨n, s, a, b, c, d, q⟩ => ⟨n, s, a, b, c, d, h _ _ q⟩⟩
abbrev E7o (n : Int) (s : Str) (v2 v3 v4 v5 v6 : Option Val) : En := [some (.fz (.int n)), some (.fz (.str s)), v2, v3, v4, v5, v6]
theorem kp__law_others : Keeps S__law_others [] 2 7 (w__law_others S__law_kinds) where
  fit := fun args Q E ⟨_, _, a, _⟩ => a ▸ fit2
  run := fun args Q E ⟨n, s, e, n0, n1, ws, q⟩ => by
    subst e
    unfold w__law_others
    have sz := sizeLine_eq
    have sl := ws.l
    have ssz : s.length ≤ sizeLine := by omega
    have tw := txt_word ws
    have nl := int_len (i := n) (by omega)
    have ng := log_32 (n := n.natAbs) (by omega)
    have tn : Txt1 (.lst [.int n, .int n, .int n]) := txt_tidy ⟨by
      show (decide (n.natAbs < 10 ^ 40) && (decide (n.natAbs < 10 ^ 40) && (decide (n.natAbs < 10 ^ 40) && true))) = true
      rw [decide_eq_true (by omega)]; rfl, by show 4 ≤ 30; decide⟩ ⟨trivial, trivial, trivial, trivial⟩
    have t0 : Txt1 (.lst [.int 0, .int n]) := txt_tidy ⟨by
      show (decide ((0 : Int).natAbs < 10 ^ 40) && (decide (n.natAbs < 10 ^ 40) && true)) = true
      rw [decide_eq_true (p := n.natAbs < 10 ^ 40) (by omega), decide_eq_true (by decide)]; rfl, by show 3 ≤ 30; decide⟩ ⟨trivial, trivial, trivial⟩
    change wSeq _ _ _ (E7o n s none none none none none)
    have f0 : ∀ {v2 v3 v4 v5 v6}, Ev (E7o n s v2 v3 v4 v5 v6) (wFrz (wVar 0)) (.int n) (E7o n s v2 v3 v4 v5 v6) := fx 0 rfl
    have f1 : ∀ {v2 v3 v4 v5 v6}, Ev (E7o n s v2 v3 v4 v5 v6) (wFrz (wVar 1)) (.str s) (E7o n s v2 v3 v4 v5 v6) := fx 1 rfl
    -- the three with a part
    let ps : List (Nat × List Str × List D) := [(13, ["part"], [.str s]), (14, ["part"], [.str s]), (15, ["part"], [.str s])]
    let qs : List (Nat × List Str × List D) := [(16, ["name"], [.str s]), (17, ["step", "name"], [.int n, .str s]), (20, ["name"], [.str s])]
    have m1 : EvR (E7o n s none none none none none) (wLst (wCons (wMkX "InvalidMachine" (gX1F "part" "the " " of the machine are invalid") (wCons (wFrz (wVar 1)) wNil)) (wCons (wMkX "InvalidSketch" (gX1F "part" "the " " of the sketch are invalid") (wCons (wFrz (wVar 1)) wNil)) (wCons (wMkX "UnlikeFrames" (gX1E "part" "the machines have different ") (wCons (wFrz (wVar 1)) wNil)) wNil)))) (.ow (.lst (ps.map gP))) (E7o n s none none none none none) :=
      ev_lst (ds := ps.map gP) (evl_cons (ev_mkX (ds := [.str s]) (evl_cons f1 evl_nil) fun Q q => ⟨s, rfl, ssz, m1_ok (by decide +kernel) (by decide +kernel) sl, q⟩).fz (evl_cons (ev_mkX (ds := [.str s]) (evl_cons f1 evl_nil) fun Q q => ⟨s, rfl, ssz, m1_ok (by decide +kernel) (by decide +kernel) sl, q⟩).fz (evl_cons (ev_mkX (ds := [.str s]) (evl_cons f1 evl_nil) fun Q q => ⟨s, rfl, ssz, mE_ok (by decide +kernel) sl, q⟩).fz evl_nil))) (by show 3 ≤ _; omega)
    refine seq_k fun K1 hn1 _ _ _ _ => run_setO m1 (hn1 _ ?_)
    change wSeq _ _ _ (E7o n s (some (.ow (.lst (ps.map gP)))) none none none none)
    have rp3 : ∀ {v2 v3 v4 v5 v6}, EvR (E7o n s v2 v3 v4 v5 v6) (wOp2 gMulT (wLst (wCons (wBlt gRepr (wCons (wVar 1) wNil)) wNil)) (wC (.int 3))) (.ow (.lst (List.replicate 3 (.str (D.str s).pd.shown)))) (E7o n s v2 v3 v4 v5 v6) := fun {v2 v3 v4 v5 v6} => by
      have := ev_mulL 3 (env := E7o n s v2 v3 v4 v5 v6) (ds := [.str (D.str s).pd.shown]) (ev_l1 (ev_repr (vx 1 rfl) tw.sh).fz).ow (by show 1 * 3 ≤ 1000; decide) (by decide)
      rw [fl_one] at this
      exact this
    have a1 := reps_own (env := E7o n s (some (.ow (.lst (ps.map gP)))) none none none none) (i := 2) (j := 3) (xs := ps) (f := "part") (d := .str s) (Es := ["InvalidMachine", "InvalidSketch", "UnlikeFrames"]) rfl (fun p hp => by
      simp only [ps, List.mem_cons, List.not_mem_nil, or_false] at hp
      rcases hp with rfl | rfl | rfl
      · exact ⟨mP 13 (by decide) (by decide), rfl⟩
      · exact ⟨mP 14 (by decide) (by decide), rfl⟩
      · exact ⟨mP 15 (by decide) (by decide), rfl⟩) tw.sh (by show 3 < 1000; decide) (by show 3 < 7; decide)
    have a2 := kinds_fz (env := E7o n s (some (.fz (.lst (ps.map gP)))) none none none none) (i := 2) (j := 3) (xs := ps) rfl (fun p hp => by
      simp only [ps, List.mem_cons, List.not_mem_nil, or_false] at hp
      rcases hp with rfl | rfl | rfl
      · show 13 < 24; decide
      · show 14 < 24; decide
      · show 15 < 24; decide) (by show 3 < 1000; decide) (by show 3 < 7; decide)
    have k3 : ∀ (x y z : Nat) {env : En}, EvR env (wLst (wCons (wLst (wCons (wC (.int (x : Int))) wNil)) (wCons (wLst (wCons (wC (.int (y : Int))) wNil)) (wCons (wLst (wCons (wC (.int (z : Int))) wNil)) wNil)))) (.ow (.lst (([x, y, z] : List Nat).map fun k : Nat => D.lst [.int (k : Int)]))) env := fun x y z env =>
      ev_lst (ds := ([x, y, z] : List Nat).map fun k : Nat => D.lst [.int (k : Int)]) (evl_cons (ev_l1 cx).ow (evl_cons (ev_l1 cx).ow (evl_cons (ev_l1 cx).ow evl_nil))) (by show 3 ≤ _; omega)
    refine sk_f (evt_or_f (evt_B (ev_neSelf (d := .lst (List.replicate 3 (.str (D.str s).pd.shown))) a1.ow rp3.ow (okD_reps tw.ok))) (evt_B (ev_neSelf (d := .lst (([13, 14, 15] : List Nat).map fun k : Nat => D.lst [.int (k : Int)])) a2.ow (k3 13 14 15).ow okD_kinds))) ?_
    -- the three with a name
    have m2 : EvR (E7o n s (some (.fz (.lst (ps.map gP)))) none none none none) (wLst (wCons (wMkX "UnknownName" (gX1 "name") (wCons (wFrz (wVar 1)) wNil)) (wCons (wMkX "DeedRefused" (gX2 "name" "step" "the deed " " is not enabled after " " deeds") (wCons (wFrz (wVar 1)) (wCons (wFrz (wVar 0)) wNil))) (wCons (wMkX "CallsPresent" (gX1F "name" "the deed " " is a call") (wCons (wFrz (wVar 1)) wNil)) wNil)))) (.ow (.lst (qs.map gP))) (E7o n s (some (.fz (.lst (ps.map gP)))) none none none none) :=
      ev_lst (ds := qs.map gP) (evl_cons (ev_mkX (ds := [.str s]) (evl_cons f1 evl_nil) fun Q q => ⟨_, rfl, q⟩).fz (evl_cons (ev_mkX (ds := [.str s, .int n]) (evl_cons f1 (evl_cons f0 evl_nil)) fun Q q => ⟨s, n, rfl, ssz, ng, m2_ok (by decide +kernel) (by decide +kernel) (by decide +kernel) sl nl, q⟩).fz (evl_cons (ev_mkX (ds := [.str s]) (evl_cons f1 evl_nil) fun Q q => ⟨s, rfl, ssz, m1_ok (by decide +kernel) (by decide +kernel) sl, q⟩).fz evl_nil))) (by show 3 ≤ _; omega)
    refine seq_k fun K2 hn2 _ _ _ _ => run_setO m2 (hn2 _ ?_)
    change wSeq _ _ _ (E7o n s (some (.fz (.lst (ps.map gP)))) none (some (.ow (.lst (qs.map gP)))) none none)
    have a3 := reps_own (env := E7o n s (some (.fz (.lst (ps.map gP)))) none (some (.ow (.lst (qs.map gP)))) none none) (i := 4) (j := 3) (xs := qs) (f := "name") (d := .str s) (Es := ["UnknownName", "DeedRefused", "CallsPresent"]) rfl (fun p hp => by
      simp only [qs, List.mem_cons, List.not_mem_nil, or_false] at hp
      rcases hp with rfl | rfl | rfl
      · exact ⟨mN 16 (.inl rfl), rfl⟩
      · exact ⟨mN 17 (.inr (.inl rfl)), by
          show (if ("name" : Str) = "step" then some (D.int n) else if ("name" : Str) = "name" then some (D.str s) else none) = some (D.str s)
          rw [if_neg (by decide +kernel), if_pos rfl]⟩
      · exact ⟨mN 20 (.inr (.inr rfl)), rfl⟩) tw.sh (by show 3 < 1000; decide) (by show 3 < 7; decide)
    have a4 := kinds_fz (env := E7o n s (some (.fz (.lst (ps.map gP)))) none (some (.fz (.lst (qs.map gP)))) none none) (i := 4) (j := 3) (xs := qs) rfl (fun p hp => by
      simp only [qs, List.mem_cons, List.not_mem_nil, or_false] at hp
      rcases hp with rfl | rfl | rfl
      · show 16 < 24; decide
      · show 17 < 24; decide
      · show 20 < 24; decide) (by show 3 < 1000; decide) (by show 3 < 7; decide)
    refine sk_f (evt_or_f (evt_B (ev_neSelf (d := .lst (List.replicate 3 (.str (D.str s).pd.shown))) a3.ow rp3.ow (okD_reps tw.ok))) (evt_B (ev_neSelf (d := .lst (([16, 17, 20] : List Nat).map fun k : Nat => D.lst [.int (k : Int)])) a4.ow (k3 16 17 20).ow okD_kinds))) ?_
    -- step, line, limit
    have tx : ∀ {v2 v3 v4 v5 v6}, Ev (E7o n s v2 v3 v4 v5 v6) (wMkX "InvalidText" (gX1I "line" "line " " is invalid") (wCons (wFrz (wVar 0)) wNil)) (.exn "InvalidText" ["line"] [.int n]) (E7o n s v2 v3 v4 v5 v6) :=
      (ev_mkX (ds := [.int n]) (evl_cons f0 evl_nil) fun Q q => ⟨n, rfl, ng, m1_ok (by decide +kernel) (by decide +kernel) nl, q⟩).fz
    have tm : ∀ {v2 v3 v4 v5 v6}, Ev (E7o n s v2 v3 v4 v5 v6) (wMkX "TooMany" (gX1J "limit" "there are more than ") (wCons (wFrz (wVar 0)) wNil)) (.exn "TooMany" ["limit"] [.int n]) (E7o n s v2 v3 v4 v5 v6) :=
      (ev_mkX (ds := [.int n]) (evl_cons f0 evl_nil) fun Q q => ⟨n, rfl, ng, mE_ok (by decide +kernel) nl, q⟩).fz
    have st : Ev (E7o n s (some (.fz (.lst (ps.map gP)))) none (some (.fz (.lst (qs.map gP)))) none none) (wXf "step" ["DeedRefused"] (wOp2 gIx (wVar 4) (wC (.int 1)))) (.int n) (E7o n s (some (.fz (.lst (ps.map gP)))) none (some (.fz (.lst (qs.map gP)))) none none) :=
      (ev_xf (C := "DeedRefused") (ks := ["step", "name"]) (vs := [.int n, .str s]) (ev_ixl 1 (vx 4 rfl) cx rfl).fz List.mem_cons_self rfl).fz
    refine seq_k fun K3 hn3 _ _ _ _ => run_setO (ev_lst (ds := [.int n, .int n, .int n]) (evl_cons st (evl_cons (ev_xf (C := "InvalidText") (ks := ["line"]) (vs := [.int n]) tx List.mem_cons_self rfl).fz (evl_cons (ev_xf (C := "TooMany") (ks := ["limit"]) (vs := [.int n]) tm List.mem_cons_self rfl).fz evl_nil))) (by show 3 ≤ _; omega)) (hn3 _ ?_)
    change wSeq _ _ _ (E7o n s (some (.fz (.lst (ps.map gP)))) none (some (.fz (.lst (qs.map gP)))) (some (.ow (.lst [.int n, .int n, .int n]))) none)
    have r1 : EvR (E7o n s (some (.fz (.lst (ps.map gP)))) none (some (.fz (.lst (qs.map gP)))) (some (.ow (.lst [.int n, .int n, .int n]))) none) (wBlt gRepr (wCons (wVar 5) wNil)) (.fz (.str (D.lst [.int n, .int n, .int n]).pd.shown)) _ := ev_bltS (o := .lst [.int n, .int n, .int n]) rfl fun Q' q => by
      rw [gRepr_1]; exact ⟨tn.sh, q⟩
    have r2 : EvR (E7o n s (some (.fz (.lst (ps.map gP)))) none (some (.fz (.lst (qs.map gP)))) (some (.ow (.lst [.int n, .int n, .int n]))) none) (wBlt gRepr (wCons (wLst (wCons (wVar 0) (wCons (wVar 0) (wCons (wVar 0) wNil)))) wNil)) (.fz (.str (D.lst [.int n, .int n, .int n]).pd.shown)) (E7o n s (some (.fz (.lst (ps.map gP)))) none (some (.fz (.lst (qs.map gP)))) (some (.ow (.lst [.int n, .int n, .int n]))) none) :=
      ev_repr (d := .lst [.int n, .int n, .int n]) (ev_lst (ds := [.int n, .int n, .int n]) (evl_cons (vx 0 rfl) (evl_cons (vx 0 rfl) (evl_cons (vx 0 rfl) evl_nil))) (by show 3 ≤ _; omega)).ow tn.sh
    refine sk_f (evt_B (ev_neSelf r1.fz r2.fz (okD_str tn.ok).e)) ?_
    have one : ∀ (k : Nat) {env : En}, Ev env (wLst (wCons (wC (.int (k : Int))) wNil)) (.lst [.int (k : Int)]) env := fun k env => (ev_l1 cx).ow
    have ok1 : ∀ k : Nat, (D.lst [.int (k : Int)]).okE = true := fun k => (okD_one k).e
    have tx' : ∀ {v2 v3 v4 v5 v6}, Ev (E7o n s v2 v3 v4 v5 v6) (wFrz (wMkX "InvalidText" (gX1I "line" "line " " is invalid") (wCons (wFrz (wVar 0)) wNil))) (.exn (xvG 18) ["line"] [.int n]) (E7o n s v2 v3 v4 v5 v6) := (ev_frz tx).fz
    have tm' : ∀ {v2 v3 v4 v5 v6}, Ev (E7o n s v2 v3 v4 v5 v6) (wFrz (wMkX "TooMany" (gX1J "limit" "there are more than ") (wCons (wFrz (wVar 0)) wNil))) (.exn (xvG 19) ["limit"] [.int n]) (E7o n s v2 v3 v4 v5 v6) := (ev_frz tm).fz
    refine sk_f (evt_or_f (evt_B (ev_neSelf (ev_kinds tx' (by decide)).ow (one 18) (ok1 18))) (evt_B (ev_neSelf (ev_kinds tm' (by decide)).ow (one 19) (ok1 19)))) ?_
    -- reasons
    have rs : EvR (E7o n s (some (.fz (.lst (ps.map gP)))) none (some (.fz (.lst (qs.map gP)))) (some (.ow (.lst [.int n, .int n, .int n]))) none) (wXf "reasons" ["Contradiction"] (wMkX "Contradiction" (gXL "reasons") (wCons (wFrz (wLst (wCons (wC (.int 0)) (wCons (wVar 0) wNil)))) wNil))) (.fz (.lst [.int 0, .int n])) (E7o n s (some (.fz (.lst (ps.map gP)))) none (some (.fz (.lst (qs.map gP)))) (some (.ow (.lst [.int n, .int n, .int n]))) none) :=
      ev_xf (C := "Contradiction") (ks := ["reasons"]) (vs := [.lst [.int 0, .int n]]) (ev_mkX (ds := [.lst [.int 0, .int n]]) (evl_cons (ev_frz (ev_lst (ds := [.int 0, .int n]) (evl_cons cx (evl_cons (vx 0 rfl) evl_nil)) (by show 2 ≤ _; omega)).ow).fz evl_nil) fun Q q => ⟨_, rfl, q⟩).fz List.mem_cons_self rfl
    refine seq_k fun K4 hn4 _ _ _ _ => run_set rs (hn4 _ ?_)
    change wSeq _ _ _ (E7o n s (some (.fz (.lst (ps.map gP)))) none (some (.fz (.lst (qs.map gP)))) (some (.ow (.lst [.int n, .int n, .int n]))) (some (.fz (.lst [.int 0, .int n]))))
    have r3 : Ev (E7o n s (some (.fz (.lst (ps.map gP)))) none (some (.fz (.lst (qs.map gP)))) (some (.ow (.lst [.int n, .int n, .int n]))) (some (.fz (.lst [.int 0, .int n])))) (wBlt gRepr (wCons (wLst (wCons (wC (.int 0)) (wCons (wVar 0) wNil))) wNil)) (.str (D.lst [.int 0, .int n]).pd.shown) (E7o n s (some (.fz (.lst (ps.map gP)))) none (some (.fz (.lst (qs.map gP)))) (some (.ow (.lst [.int n, .int n, .int n]))) (some (.fz (.lst [.int 0, .int n])))) :=
      (ev_repr (d := .lst [.int 0, .int n]) (ev_lst (ds := [.int 0, .int n]) (evl_cons cx (evl_cons (vx 0 rfl) evl_nil)) (by show 2 ≤ _; omega)).ow t0.sh).fz
    have ct : Ev (E7o n s (some (.fz (.lst (ps.map gP)))) none (some (.fz (.lst (qs.map gP)))) (some (.ow (.lst [.int n, .int n, .int n]))) (some (.fz (.lst [.int 0, .int n])))) (wFrz (wMkX "Contradiction" (gXL "reasons") (wCons (wFrz (wLst (wCons (wVar 0) wNil))) wNil))) (.exn (xvG 21) ["reasons"] [.lst [.int n]]) (E7o n s (some (.fz (.lst (ps.map gP)))) none (some (.fz (.lst (qs.map gP)))) (some (.ow (.lst [.int n, .int n, .int n]))) (some (.fz (.lst [.int 0, .int n])))) :=
      (ev_frz (ev_mkX (ds := [.lst [.int n]]) (evl_cons (ev_frz (ev_l1 (vx 0 rfl)).ow).fz evl_nil) fun Q q => ⟨_, rfl, q⟩).fz).fz
    refine sk_f (evt_or_f (evt_B (ev_neSelf (ev_repr (d := .lst [.int 0, .int n]) (vx 6 rfl) t0.sh).fz r3 (okD_str t0.ok).e)) (evt_B (ev_neSelf (ev_kinds ct (by decide)).ow (one 21) (ok1 21)))) ?_
    have z0 : ∀ (x : Nat) {env : En}, Ev env (wFrz (wMkX (xvG x) gX0 wNil)) (.exn (xvG x) [] []) env := fun x env => (ev_frz (ev_mkX (ds := []) evl_nil fun Q q => ⟨rfl, q⟩).fz).fz
    exact run_ret (ev_and_t (ev_eqSelf (ev_kinds (z0 22) (by decide)).ow (one 22) (ok1 22)) (ev_eqSelf (ev_kinds (z0 23) (by decide)).ow (one 23) (ok1 23))) ⟨_, rfl, q⟩
end LV
namespace LV
open PySem PySem.Spec L2
section
variable {env e1 : En} {u v : TW} {s t : SW} {K : Ks} {o : O} {m : Nat} {Q : Rv → En → Prop} {E : XW}
theorem run_or_f (h : EvT env u false e1) (q : wIf v s t K e1) : wIf (wtOr u v) s t K env := h.go (by
  dsimp only
  rw [if_neg Bool.false_ne_true]
  exact q)
theorem take1 {n : Int} (h : env[1]? = some (some (.ow o))) (bg : BagOk o (m : Int)) (hm : m + 1 ≤ 100000) (h1 : 1 ≤ n) (h2 : n < 10 ^ 40) (q : ∀ x o', 0 ≤ x → x < n → BagOk o' ((m + 1 : Nat) : Int) → Q (.fz (.int x)) (env.set 1 (some (.ow o')))) : wCall S__law_take (wCons (wVar 1) (wCons (wC (.int n)) wNil)) env Q E :=
  call_bag (i := 1) (o := o) (ds := [.int n]) mS__law_take (bag_nn bg) h (evl_cons cx evl_nil) h ⟨o, n, (m : Int), rfl, bg, h1, h2, by omega, fun d o' d0 d1 b => ⟨o', rfl, (fun _ z => nomatch z), q d o' d0 d1 b⟩⟩
theorem word1F (h : env[1]? = some (some (.ow o))) (bg : BagOk o (m : Int)) (hm : m + 14 ≤ 100000) (q : ∀ s o', WordOk s → BagOk o' ((m + 14 : Nat) : Int) → Q (.fz (.str s)) (env.set 1 (some (.ow o')))) : wFz (wFrz (wCall S__law_word (wCons (wVar 1) wNil))) env Q E := by
  unfold wFz wFrz
  refine call_bag (i := 1) (o := o) (ds := []) mS__law_word (bag_nn bg) h evl_nil h ⟨o, m, rfl, bg, hm, fun s o' hs b => ⟨o', rfl, (fun _ z => nomatch z), ?_⟩⟩
  exact ⟨.str s, _, rfl, q s o' hs b⟩
theorem ev_caught {w : EW} {d : D} {k : Bool} (h : Ev env w d env) (p : d.plain = true) (hk : (!isRowD d (.int 1)) = k) : EvT env (wTru (wCall S__law_caught (wCons w wNil))) k env :=
  evt_trub (ev_call (S := S__law_caught) (ds := [d]) (evl_cons h evl_nil) (fun q => ⟨d, rfl, p, by rw [hk]; exact q⟩) fun i z => by cases z)
theorem ev_valued {w : EW} {d : D} (h : Ev env w d env) (t : Txt1 d) : EvR env (wCall S__law_valued (wCons w wNil)) (.fz (.bl true)) env :=
  ev_call (S := S__law_valued) (ds := [d]) (evl_cons h evl_nil) (fun q => ⟨d, rfl, t, q⟩) fun i z => by cases z
end
theorem row1 (x : Int) : isRowD (.tup [.int x]) (.int 1) = decide (0 ≤ x) := by
  show (decide (0 ≤ x) && true) = _
  rw [Bool.and_true]
abbrev S_law : FSpec := SLaw 63
theorem kp_law : Keeps S_law [] 1 5 (w_law S__law_bag S__law_take S__law_rows S__law_refusals S__law_longer S__law_joins S__law_orders S__law_entry S__law_caught S__law_word S__law_others S__law_valued) where
  fit := fun args Q E ⟨_, a, _⟩ => a ▸ fit1
  run := fun args Q E ⟨ns, a, hl, hz, q⟩ => by
    subst a
    unfold w_law
    have sz := sizeLine_eq
    obtain ⟨N, hN⟩ : ∃ N, D.scr ns = N := ⟨_, rfl⟩
    change wSeq _ _ _ [some (.fz (.scr ns)), none, none, none, none]
    refine seq_k fun K1 hn1 _ _ _ _ => ?_
    unfold wSet
    refine call_both (ds := [.scr ns]) mS__law_bag (evl_cons (fx 0 rfl) evl_nil) ⟨ns, rfl, hz, hl, fun o bg0 => ⟨rfl, (fun _ z => nomatch z), hn1 _ ?_⟩⟩
    rw [hN] at q ⊢
    have bg : BagOk o ((0 : Nat) : Int) := bg0
    change wSeq _ _ _ [some (.fz N), some (.ow o), none, none, none]
    refine seq_k fun K2 hn2 _ _ _ _ => ?_
    unfold wSet wOp2
    refine cx.go ?_
    refine take1 (m := 0) (o := o) rfl bg (by decide) (by decide) (by decide) fun x o1 x0 x1 bg1 => ?_
    refine ⟨.int 1, .int x, rfl, rfl, ?_⟩
    rw [gAdd_ii]
    obtain ⟨w, hw⟩ := nat_of (i := 1 + x) (by omega)
    have w1 : 1 ≤ w := by omega
    have w8 : w ≤ 8 := by omega
    rw [hw]
    refine hn2 _ ?_
    change wSeq _ _ _ [some (.fz N), some (.ow o1), some (.fz (.int (w : Int))), none, none]
    refine seq_k fun K3 hn3 _ _ _ _ => ?_
    unfold wSet
    refine call_bag (i := 1) (o := o1) (ds := [.int (w : Int)]) mS__law_rows (bag_nn bg1) rfl (evl_cons (fx 2 rfl) evl_nil) rfl ⟨o1, 1, w, rfl, bg1, by decide, w1, w8, fun a b c d o2 ha hb hc hd bg2 => ⟨o2, rfl, (fun _ z => nomatch z), hn3 _ ?_⟩⟩
    have R : RwOk w [a, b, c, d] := ⟨w1, w8, (by show 4 ≤ 10; decide), fun r hr => by
      simp only [List.mem_cons, List.not_mem_nil, or_false] at hr
      rcases hr with rfl | rfl | rfl | rfl
      · exact ⟨ha.len, fun x hx => (ha.bd x hx).1⟩
      · exact ⟨hb.len, fun x hx => (hb.bd x hx).1⟩
      · exact ⟨hc.len, fun x hx => (hc.bd x hx).1⟩
      · exact ⟨hd.len, fun x hx => (hd.bd x hx).1⟩⟩
    have ra : RowOk w (10 ^ 31) a := ⟨ha.len, fun x hx => by have := ha.bd x hx; omega⟩
    obtain ⟨L, hL⟩ : ∃ L, [rowD a, rowD b, rowD c, rowD d] = L := ⟨_, rfl⟩
    rw [hL]
    change wSeq _ _ _ [some (.fz N), some (.ow o2), some (.fz (.int (w : Int))), some (.ow (.lst L)), none]
    refine seq_k fun K4 hn4 _ _ _ _ => ?_
    have fr : Ev [some (.fz N), some (.ow o2), some (.fz (.int (w : Int))), some (.ow (.lst L)), none] (wFrz (wVar 3)) (.lst L) [some (.fz N), some (.ow o2), some (.fz (.int (w : Int))), some (.fz (.lst L)), none] := (ev_frzs (i := 3) (o := .lst L) rfl).fz
    refine run_or_f (evt_not (k := true) (evt_trub (ev_call (S := S__law_orders) (ds := [.lst L]) (evl_cons fr evl_nil) (fun q => ⟨[a, b, c, d], w, by rw [← hL]; rfl, R, q⟩) fun i z => by cases z))) ?_
    refine run_or_f (evt_not (k := true) (evt_trub (ev_call (S := S__law_joins) (ds := [.lst L]) (evl_cons (fx 3 rfl) evl_nil) (fun q => ⟨a, b, c, d, w, by rw [← hL]; rfl, R, q⟩) fun i z => by cases z))) ?_
    refine run_or_f (evt_not (k := true) (evt_trub (ev_call (S := S__law_longer) (ds := [.lst L]) (evl_cons (fx 3 rfl) evl_nil) (fun q => ⟨a, b, c, d, w, by rw [← hL]; rfl, R, q⟩) fun i z => by cases z))) ?_
    unfold wIf wtNot wTru wFz
    refine call_bag (i := 1) (o := o2) (ds := [.lst L]) mS__law_refusals (bag_nn bg2) rfl (evl_cons (fx 3 rfl) evl_nil) rfl ⟨o2, 101, w, a, b, c, d, by rw [← hL]; rfl, bg2, by decide, R, ra, fun o3 bg3 => ⟨o3, by rw [hL]; rfl, (fun _ z => nomatch z), .bl true, true, rfl, rfl, ?_⟩⟩
    dsimp only
    rw [if_neg (by decide)]
    refine hn4 _ ?_
    change wSeq _ _ _ [some (.fz N), some (.ow o3), some (.fz (.int (w : Int))), some (.fz (.lst L)), none]
    refine seq_k fun K5 hn5 _ _ _ _ => ?_
    unfold wSet
    refine call_bag (i := 1) (o := o3) (ds := []) mS__law_entry (bag_nn bg3) rfl evl_nil rfl ⟨o3, 102, rfl, bg3, by decide, fun n o4 n0 n1 bg4 => ⟨o4, rfl, (fun _ z => nomatch z), hn5 _ ?_⟩⟩
    change wSeq _ _ _ [some (.fz N), some (.ow o4), some (.fz (.int (w : Int))), some (.fz (.lst L)), some (.fz (.int n))]
    have c1 : EvT [some (.fz N), some (.ow o4), some (.fz (.int (w : Int))), some (.fz (.lst L)), some (.fz (.int n))] (wTru (wCall S__law_caught (wCons (wFrz (wLst (wCons (wVar 4) wNil))) wNil))) true [some (.fz N), some (.ow o4), some (.fz (.int (w : Int))), some (.fz (.lst L)), some (.fz (.int n))] :=
      ev_caught (d := .lst [.int n]) (ev_frz (ev_l1 (vx 4 rfl)).ow).fz rfl rfl
    have tu : ∀ (x : Int) (w0 : EW) {env : En}, EvR env w0 (.fz (.int x)) env → Ev env (wFrz (wTup (wCons w0 wNil))) (.tup [.int x]) env := fun x w0 env h => (ev_frz (ev_tup (ds := [.int x]) (evl_cons h.fz evl_nil) (by show 1 ≤ _; omega)).fz).fz
    have c2 : EvT [some (.fz N), some (.ow o4), some (.fz (.int (w : Int))), some (.fz (.lst L)), some (.fz (.int n))] (wTru (wCall S__law_caught (wCons (wFrz (wTup (wCons (wOp2 gSub (wNeg (wC (.int 1))) (wVar 4)) wNil))) wNil))) true [some (.fz N), some (.ow o4), some (.fz (.int (w : Int))), some (.fz (.lst L)), some (.fz (.int n))] :=
      ev_caught (d := .tup [.int (-1 - n)]) (tu _ _ (ev_subi ev_neg.fz (vx 4 rfl))) rfl (by rw [row1, decide_eq_false (by omega)]; rfl)
    have c3 : EvT [some (.fz N), some (.ow o4), some (.fz (.int (w : Int))), some (.fz (.lst L)), some (.fz (.int n))] (wTru (wCall S__law_caught (wCons (wFrz (wTup (wCons (wVar 4) wNil))) wNil))) false [some (.fz N), some (.ow o4), some (.fz (.int (w : Int))), some (.fz (.lst L)), some (.fz (.int n))] :=
      ev_caught (d := .tup [.int n]) (tu _ _ (ev_var rfl)) rfl (by rw [row1, decide_eq_true (by omega)]; rfl)
    refine sk_f (evt_or_f (evt_not c1) (evt_or_f (evt_not c2) c3)) ?_
    have tn : Txt1 (.int n) := txt_tidy ⟨by
      show decide (n.natAbs < 10 ^ 40) = true
      exact decide_eq_true (by omega), by show 1 ≤ 30; decide⟩ trivial
    have t2 : Txt1 (.tup [.int n, .non]) := txt_tidy ⟨by
      show (decide (n.natAbs < 10 ^ 40) && true) = true
      rw [decide_eq_true (by omega)]; rfl, by show 3 ≤ 30; decide⟩ ⟨trivial, trivial, trivial⟩
    unfold wRet wAnd
    refine (ev_valued (fx 4 rfl) tn).go ⟨true, rfl, ?_⟩
    rw [if_pos rfl]
    refine (ev_valued (d := .tup [.int n, .non]) (ev_frz (ev_tup (ds := [.int n, .non]) (evl_cons (vx 4 rfl) (evl_cons cx evl_nil)) (by show 2 ≤ _; omega)).fz).fz t2).go ⟨true, rfl, ?_⟩
    rw [if_pos rfl]
    unfold wCall
    refine (fx (d := .int n) 4 rfl).go (Q := fun r e => wCons (wFrz (fun env Q E => _)) wNil e (fun rs e => _) _) ?_
    refine word1F (Q := fun r e => wNil e (fun rs e => _) _) (m := 104) rfl bg4 (by decide) fun s o5 hs bg5 => ?_
    refine ⟨[.fz (.int n), .fz (.str s)], rfl, List.nodup_nil, n, s, rfl, n0, n1, hs, backOk_fz [.int n, .str s], (fun _ z => nomatch z), ?_⟩
    exact ⟨_, rfl, q _ rfl⟩
end LV
set_option maxHeartbeats 2000000
namespace LV
open PySem PySem.Spec L2
def topS (i : Nat) : Stmt := PySem.Challenge.pw_lampthrong_k00_rows_in_order.main.body.getD i (.Pass ⟨0, 0, 0, 0⟩)
abbrev s_is_integer : Stmt := topS 27
theorem sc_is_integer : FnScope ["value"] ["value"] (defScope s_is_integer) := ⟨rfl, rfl, rfl, by decide +kernel, rfl, by decide +kernel, by decide +kernel⟩
abbrev s_entries_cover : Stmt := topS 33
theorem sc_entries_cover : FnScope ["big", "small", "big_entry", "small_entry"] ["big", "small"] (defScope s_entries_cover) := ⟨rfl, rfl, rfl, by decide +kernel, rfl, by decide +kernel, by decide +kernel⟩
abbrev s__law_bag : Stmt := topS 39
theorem sc__law_bag : FnScope ["_law_script", "_law_cells", "_law_cell", "_law_great", "_law_seed"] ["_law_script"] (defScope s__law_bag) := ⟨rfl, rfl, rfl, by decide +kernel, rfl, by decide +kernel, by decide +kernel⟩
abbrev s__law_take : Stmt := topS 40
theorem sc__law_take : FnScope ["_law_bag_here", "_law_many", "_law_digit", "_law_cells", "_law_cell", "_law_first", "_law_second", "_law_third"] ["_law_bag_here", "_law_many"] (defScope s__law_take) := ⟨rfl, rfl, rfl, by decide +kernel, rfl, by decide +kernel, by decide +kernel⟩
abbrev s__law_is_integer : Stmt := topS 41
theorem sc__law_is_integer : FnScope ["_law_value"] ["_law_value"] (defScope s__law_is_integer) := ⟨rfl, rfl, rfl, by decide +kernel, rfl, by decide +kernel, by decide +kernel⟩
abbrev s__law_odd : Stmt := topS 50
theorem sc__law_odd : FnScope ["_law_row", "_law_place", "_law_way", "_law_parts"] ["_law_row", "_law_place", "_law_way"] (defScope s__law_odd) := ⟨rfl, rfl, rfl, by decide +kernel, rfl, by decide +kernel, by decide +kernel⟩
abbrev s__law_dues : Stmt := topS 52
theorem sc__law_dues : FnScope ["_law_row", "_law_odd_here", "_law_lone", "_law_dues_here"] ["_law_row", "_law_odd_here", "_law_lone"] (defScope s__law_dues) := ⟨rfl, rfl, rfl, by decide +kernel, rfl, by decide +kernel, by decide +kernel⟩
abbrev s__law_kinds : Stmt := topS 55
theorem sc__law_kinds : FnScope ["_law_e", "_law_found", "_law_k"] ["_law_e"] (defScope s__law_kinds) := ⟨rfl, rfl, rfl, by decide +kernel, rfl, by decide +kernel, by decide +kernel⟩
abbrev s_is_row : Stmt := topS 30
theorem sc_is_row : FnScope ["value", "width", "entry"] ["value", "width"] (defScope s_is_row) := ⟨rfl, rfl, rfl, by decide +kernel, rfl, by decide +kernel, by decide +kernel⟩
abbrev s__law_is_row : Stmt := topS 42
theorem sc__law_is_row : FnScope ["_law_value", "_law_width", "_law_entry_here"] ["_law_value", "_law_width"] (defScope s__law_is_row) := ⟨rfl, rfl, rfl, by decide +kernel, rfl, by decide +kernel, by decide +kernel⟩
abbrev s__law_entry : Stmt := topS 43
theorem sc__law_entry : FnScope ["_law_bag_here", "_law_kind"] ["_law_bag_here"] (defScope s__law_entry) := ⟨rfl, rfl, rfl, by decide +kernel, rfl, by decide +kernel, by decide +kernel⟩
abbrev s__law_word : Stmt := topS 58
theorem sc__law_word : FnScope ["_law_bag_here", "_law_letters", "_law_k"] ["_law_bag_here"] (defScope s__law_word) := ⟨rfl, rfl, rfl, by decide +kernel, rfl, by decide +kernel, by decide +kernel⟩
abbrev s_check_row : Stmt := topS 31
theorem sc_check_row : FnScope ["row", "width"] ["row", "width"] (defScope s_check_row) := ⟨rfl, rfl, rfl, by decide +kernel, rfl, by decide +kernel, by decide +kernel⟩
abbrev s__law_near : Stmt := topS 44
theorem sc__law_near : FnScope ["_law_bag_here", "_law_row", "_law_mode", "_law_place", "_law_found", "_law_k", "_law_step"] ["_law_bag_here", "_law_row"] (defScope s__law_near) := ⟨rfl, rfl, rfl, by decide +kernel, rfl, by decide +kernel, by decide +kernel⟩
abbrev s__law_valued : Stmt := topS 56
theorem sc__law_valued : FnScope ["_law_thing", "_law_errors", "_law_e", "_law_k"] ["_law_thing"] (defScope s__law_valued) := ⟨rfl, rfl, rfl, by decide +kernel, rfl, by decide +kernel, by decide +kernel⟩
abbrev s__law_others : Stmt := topS 57
theorem sc__law_others : FnScope ["_law_number", "_law_word_here", "_law_parts", "_law_e", "_law_named", "_law_told_here", "_law_reasons"] ["_law_number", "_law_word_here"] (defScope s__law_others) := ⟨rfl, rfl, rfl, by decide +kernel, rfl, by decide +kernel, by decide +kernel⟩
abbrev s_check_rows : Stmt := topS 32
theorem sc_check_rows : FnScope ["rows", "width", "row"] ["rows"] (defScope s_check_rows) := ⟨rfl, rfl, rfl, by decide +kernel, rfl, by decide +kernel, by decide +kernel⟩
abbrev s_covers : Stmt := topS 34
theorem sc_covers : FnScope ["big", "small"] ["big", "small"] (defScope s_covers) := ⟨rfl, rfl, rfl, by decide +kernel, rfl, by decide +kernel, by decide +kernel⟩
abbrev s_size : Stmt := topS 37
theorem sc_size : FnScope ["row"] ["row"] (defScope s_size) := ⟨rfl, rfl, rfl, by decide +kernel, rfl, by decide +kernel, by decide +kernel⟩
abbrev s__law_rows : Stmt := topS 45
theorem sc__law_rows : FnScope ["_law_bag_here", "_law_width", "_law_first", "_law_k", "_law_second", "_law_third"] ["_law_bag_here", "_law_width"] (defScope s__law_rows) := ⟨rfl, rfl, rfl, by decide +kernel, rfl, by decide +kernel, by decide +kernel⟩
abbrev s__law_caught : Stmt := topS 54
theorem sc__law_caught : FnScope ["_law_odd_here", "_law_e"] ["_law_odd_here"] (defScope s__law_caught) := ⟨rfl, rfl, rfl, by decide +kernel, rfl, by decide +kernel, by decide +kernel⟩
abbrev s_joined : Stmt := topS 35
theorem sc_joined : FnScope ["first", "rest", "rows", "position", "row"] ["first", "rest"] (defScope s_joined) := ⟨rfl, rfl, rfl, by decide +kernel, rfl, by decide +kernel, by decide +kernel⟩
abbrev s_shared : Stmt := topS 36
theorem sc_shared : FnScope ["first", "rest", "rows", "position", "row"] ["first", "rest"] (defScope s_shared) := ⟨rfl, rfl, rfl, by decide +kernel, rfl, by decide +kernel, by decide +kernel⟩
abbrev s__law_orders : Stmt := topS 46
theorem sc__law_orders : FnScope ["_law_rows_here", "_law_big", "_law_small", "_law_due", "_law_k"] ["_law_rows_here"] (defScope s__law_orders) := ⟨rfl, rfl, rfl, by decide +kernel, rfl, by decide +kernel, by decide +kernel⟩
abbrev s__law_told : Stmt := topS 47
theorem sc__law_told : FnScope ["_law_rows_here", "_law_count", "_law_least"] ["_law_rows_here", "_law_count", "_law_least"] (defScope s__law_told) := ⟨rfl, rfl, rfl, by decide +kernel, rfl, by decide +kernel, by decide +kernel⟩
abbrev s__law_longer : Stmt := topS 49
theorem sc__law_longer : FnScope ["_law_rows_here", "_law_more", "_law_entry_here", "_law_less", "_law_columns", "_law_k", "_law_row", "_law_told_here", "_law_column", "_law_e"] ["_law_rows_here"] (defScope s__law_longer) := ⟨rfl, rfl, rfl, by decide +kernel, rfl, by decide +kernel, by decide +kernel⟩
abbrev s__law_called : Stmt := topS 51
theorem sc__law_called : FnScope ["_law_number", "_law_rows_here", "_law_odd_here", "_law_row", "_law_e"] ["_law_number", "_law_rows_here", "_law_odd_here"] (defScope s__law_called) := ⟨rfl, rfl, rfl, by decide +kernel, rfl, by decide +kernel, by decide +kernel⟩
abbrev s__law_joins : Stmt := topS 48
theorem sc__law_joins : FnScope ["_law_rows_here", "_law_width", "_law_count", "_law_columns", "_law_told_here", "_law_k", "_law_row", "_law_column"] ["_law_rows_here"] (defScope s__law_joins) := ⟨rfl, rfl, rfl, by decide +kernel, rfl, by decide +kernel, by decide +kernel⟩
abbrev s__law_refusals : Stmt := topS 53
theorem sc__law_refusals : FnScope ["_law_bag_here", "_law_rows_here", "_law_row", "_law_place", "_law_way", "_law_odd_here", "_law_lone", "_law_dues_here", "_law_number"] ["_law_bag_here", "_law_rows_here"] (defScope s__law_refusals) := ⟨rfl, rfl, rfl, by decide +kernel, rfl, by decide +kernel, by decide +kernel⟩
abbrev s_law : Stmt := topS 59
theorem sc_law : FnScope ["_law_script", "_law_bag_here", "_law_width", "_law_rows_here", "_law_number"] ["_law_script"] (defScope s_law) := ⟨rfl, rfl, rfl, by decide +kernel, rfl, by decide +kernel, by decide +kernel⟩
/-- what the module holds when the law is called -/
structure Tp (P : Program) (w : World) (K : PySem.W.Frag) (mg : Str → Option Value) (base : Heap) : Prop where
  d_is_integer : ∃ f fd, DefAt K mg "is_integer" s_is_integer ["value"] f fd
  d_entries_cover : ∃ f fd, DefAt K mg "entries_cover" s_entries_cover ["big", "small"] f fd
  d__law_bag : ∃ f fd, DefAt K mg "_law_bag" s__law_bag ["_law_script"] f fd
  d__law_take : ∃ f fd, DefAt K mg "_law_take" s__law_take ["_law_bag_here", "_law_many"] f fd
  d__law_is_integer : ∃ f fd, DefAt K mg "_law_is_integer" s__law_is_integer ["_law_value"] f fd
  d__law_odd : ∃ f fd, DefAt K mg "_law_odd" s__law_odd ["_law_row", "_law_place", "_law_way"] f fd
  d__law_dues : ∃ f fd, DefAt K mg "_law_dues" s__law_dues ["_law_row", "_law_odd_here", "_law_lone"] f fd
  d__law_kinds : ∃ f fd, DefAt K mg "_law_kinds" s__law_kinds ["_law_e"] f fd
  d_is_row : ∃ f fd, DefAt K mg "is_row" s_is_row ["value", "width"] f fd
  d__law_is_row : ∃ f fd, DefAt K mg "_law_is_row" s__law_is_row ["_law_value", "_law_width"] f fd
  d__law_entry : ∃ f fd, DefAt K mg "_law_entry" s__law_entry ["_law_bag_here"] f fd
  d__law_word : ∃ f fd, DefAt K mg "_law_word" s__law_word ["_law_bag_here"] f fd
  d_check_row : ∃ f fd, DefAt K mg "check_row" s_check_row ["row", "width"] f fd
  d__law_near : ∃ f fd, DefAt K mg "_law_near" s__law_near ["_law_bag_here", "_law_row"] f fd
  d__law_valued : ∃ f fd, DefAt K mg "_law_valued" s__law_valued ["_law_thing"] f fd
  d__law_others : ∃ f fd, DefAt K mg "_law_others" s__law_others ["_law_number", "_law_word_here"] f fd
  d_check_rows : ∃ f fd, DefAt K mg "check_rows" s_check_rows ["rows"] f fd
  d_covers : ∃ f fd, DefAt K mg "covers" s_covers ["big", "small"] f fd
  d_size : ∃ f fd, DefAt K mg "size" s_size ["row"] f fd
  d__law_rows : ∃ f fd, DefAt K mg "_law_rows" s__law_rows ["_law_bag_here", "_law_width"] f fd
  d__law_caught : ∃ f fd, DefAt K mg "_law_caught" s__law_caught ["_law_odd_here"] f fd
  d_joined : ∃ f fd, DefAtV K mg "joined" s_joined ["first"] "rest" f fd
  d_shared : ∃ f fd, DefAtV K mg "shared" s_shared ["first"] "rest" f fd
  d__law_orders : ∃ f fd, DefAt K mg "_law_orders" s__law_orders ["_law_rows_here"] f fd
  d__law_told : ∃ f fd, DefAt K mg "_law_told" s__law_told ["_law_rows_here", "_law_count", "_law_least"] f fd
  d__law_longer : ∃ f fd, DefAt K mg "_law_longer" s__law_longer ["_law_rows_here"] f fd
  d__law_called : ∃ f fd, DefAt K mg "_law_called" s__law_called ["_law_number", "_law_rows_here", "_law_odd_here"] f fd
  d__law_joins : ∃ f fd, DefAt K mg "_law_joins" s__law_joins ["_law_rows_here"] f fd
  d__law_refusals : ∃ f fd, DefAt K mg "_law_refusals" s__law_refusals ["_law_bag_here", "_law_rows_here"] f fd
  d_law : ∃ f fd, DefAt K mg "law" s_law ["_law_script"] f fd
  b_CrowdError : ∃ C, mg "CrowdError" = some (.ref C)
  ix_InvalidRow : XisF K mg "InvalidRow" [("InvalidRow", true)]
  ix_ValueError : XisF K mg "ValueError" [("InvalidRow", true)]
  ec : EcF K mg xvE
  xg_CallsPresent : XisG K mg "CallsPresent" (xvN xvE "CallsPresent")
  xg_Contradiction : XisG K mg "Contradiction" (xvN xvE "Contradiction")
  xg_CrowdError : XisG K mg "CrowdError" (xvA xvE)
  xg_DeedRefused : XisG K mg "DeedRefused" (xvN xvE "DeedRefused")
  xg_InvalidBox : XisG K mg "InvalidBox" (xvN xvE "InvalidBox")
  xg_InvalidDeed : XisG K mg "InvalidDeed" (xvN xvE "InvalidDeed")
  xg_InvalidFact : XisG K mg "InvalidFact" (xvN xvE "InvalidFact")
  xg_InvalidFilling : XisG K mg "InvalidFilling" (xvN xvE "InvalidFilling")
  xg_InvalidGroup : XisG K mg "InvalidGroup" (xvN xvE "InvalidGroup")
  xg_InvalidLine : XisG K mg "InvalidLine" (xvN xvE "InvalidLine")
  xg_InvalidMachine : XisG K mg "InvalidMachine" (xvN xvE "InvalidMachine")
  xg_InvalidName : XisG K mg "InvalidName" (xvN xvE "InvalidName")
  xg_InvalidRow : XisG K mg "InvalidRow" (xvN xvE "InvalidRow")
  xg_InvalidScene : XisG K mg "InvalidScene" (xvN xvE "InvalidScene")
  xg_InvalidSketch : XisG K mg "InvalidSketch" (xvN xvE "InvalidSketch")
  xg_InvalidStart : XisG K mg "InvalidStart" (xvN xvE "InvalidStart")
  xg_InvalidTarget : XisG K mg "InvalidTarget" (xvN xvE "InvalidTarget")
  xg_InvalidText : XisG K mg "InvalidText" (xvN xvE "InvalidText")
  xg_InvalidWeights : XisG K mg "InvalidWeights" (xvN xvE "InvalidWeights")
  xg_NotPossible : XisG K mg "NotPossible" (xvN xvE "NotPossible")
  xg_NothingToRedo : XisG K mg "NothingToRedo" (xvN xvE "NothingToRedo")
  xg_NothingToUndo : XisG K mg "NothingToUndo" (xvN xvE "NothingToUndo")
  xg_TooMany : XisG K mg "TooMany" (xvN xvE "TooMany")
  xg_UnknownName : XisG K mg "UnknownName" (xvN xvE "UnknownName")
  xg_UnlikeFrames : XisG K mg "UnlikeFrames" (xvN xvE "UnlikeFrames")
  xg_ValueError : XisG K mg "ValueError" (xvA xvE)
  z_ValueError : mg "ValueError" = none
  z_abs : mg "abs" = none
  z_all : mg "all" = none
  z_bool : mg "bool" = none
  z_int : mg "int" = none
  z_isinstance : mg "isinstance" = none
  z_len : mg "len" = none
  z_list : mg "list" = none
  z_max : mg "max" = none
  z_min : mg "min" = none
  z_range : mg "range" = none
  z_repr : mg "repr" = none
  z_sum : mg "sum" = none
  z_tuple : mg "tuple" = none
  z_zip : mg "zip" = none
  c_WIDEST_ROW : ∃ t, mg "WIDEST_ROW" = some (.int 8 t)
  x_CallsPresent : XCls1F P w K mg base "CallsPresent" "name" "the deed " " is a call"
  x_Contradiction : XClsL P w K mg base "Contradiction" "reasons"
  x_DeedRefused : XCls2 P w K mg base "DeedRefused" "name" "step" "the deed " " is not enabled after " " deeds"
  x_InvalidBox : XCls P w K mg base "InvalidBox" "value"
  x_InvalidDeed : XCls P w K mg base "InvalidDeed" "value"
  x_InvalidFact : XCls P w K mg base "InvalidFact" "value"
  x_InvalidFilling : XCls P w K mg base "InvalidFilling" "value"
  x_InvalidGroup : XCls P w K mg base "InvalidGroup" "value"
  x_InvalidLine : XCls P w K mg base "InvalidLine" "value"
  x_InvalidMachine : XCls1F P w K mg base "InvalidMachine" "part" "the " " of the machine are invalid"
  x_InvalidName : XCls P w K mg base "InvalidName" "value"
  x_InvalidRow : XCls P w K mg base "InvalidRow" "value"
  x_InvalidScene : XCls P w K mg base "InvalidScene" "value"
  x_InvalidSketch : XCls1F P w K mg base "InvalidSketch" "part" "the " " of the sketch are invalid"
  x_InvalidStart : XCls P w K mg base "InvalidStart" "value"
  x_InvalidTarget : XCls P w K mg base "InvalidTarget" "value"
  x_InvalidText : XCls1I P w K mg base "InvalidText" "line" "line " " is invalid"
  x_InvalidWeights : XCls P w K mg base "InvalidWeights" "value"
  x_NotPossible : XCls P w K mg base "NotPossible" "value"
  x_NothingToRedo : XCls0 P w K mg base "NothingToRedo" 
  x_NothingToUndo : XCls0 P w K mg base "NothingToUndo" 
  x_TooMany : XCls1J P w K mg base "TooMany" "limit" "there are more than "
  x_UnknownName : XCls P w K mg base "UnknownName" "name"
  x_UnlikeFrames : XCls1E P w K mg base "UnlikeFrames" "part" "the machines have different "
  e_InvalidRow_CrowdError : Exm K mg "InvalidRow" "CrowdError" true
  e_InvalidRow_InvalidRow : Exm K mg "InvalidRow" "InvalidRow" true
theorem der_is_integer {P : Program} {w : World} {K : PySem.W.Frag} {mg : Str → Option Value} {base : Heap} (T : Tp P w K mg base) {f : Addr} (cdv : Value) (A : Around) (outer : List Env) (s : Shared) (H : Hp) (E : XK) (hr : RoomG 0 (A.deeper (PyProof.Rows.envOfC "is_integer" (defScope s_is_integer) s.heap.objs.size f cdv)))
    (σ₀ : L2.St) (h₀ : Hp) (xc : Addr → Value → Option Addr → Prop) (hN : Hp) : SSs (cxOf (L2.CX P w) P w K mg base ["value"] "is_integer" (defScope s_is_integer) f cdv A outer s H E) ⟨[], σ₀, h₀, xc, hN⟩ (fun cls d _ H => E cls d H) (defBody s_is_integer) (w_is_integer) :=
  (sss_one (ss_ret (se_and (se_isi (T := .int) (se_var (i := 0)) (by rfl) T.z_isinstance (by rfl) T.z_int (by with_unfolding_all rfl)) (se_one (se_not (se_isi (T := .bl) (se_var (i := 0)) (by rfl) T.z_isinstance (by rfl) T.z_bool (by with_unfolding_all rfl)))))))
theorem der_entries_cover {P : Program} {w : World} {K : PySem.W.Frag} {mg : Str → Option Value} {base : Heap} (T : Tp P w K mg base) {f : Addr} (cdv : Value) (A : Around) (outer : List Env) (s : Shared) (H : Hp) (E : XK) (hr : RoomG 0 (A.deeper (PyProof.Rows.envOfC "entries_cover" (defScope s_entries_cover) s.heap.objs.size f cdv)))
    (σ₀ : L2.St) (h₀ : Hp) (xc : Addr → Value → Option Addr → Prop) (hN : Hp) : SSs (cxOf (L2.CX P w) P w K mg base ["big", "small", "big_entry", "small_entry"] "entries_cover" (defScope s_entries_cover) f cdv A outer s H E) ⟨[], σ₀, h₀, xc, hN⟩ (fun cls d _ H => E cls d H) (defBody s_entries_cover) (w_entries_cover) :=
  (sss_cons (ss_for poF rfl (si_zip (by rfl) T.z_zip (sa_cons (se_var (i := 0)) (sa_cons (se_var (i := 1)) sa_nil))) (sg_tup (is := [2, 3]) rfl (pgs_cons (pg_name (i := 2) sc_entries_cover.nd rfl (by first | exact .inl rfl | exact .inr rfl)) (pgs_cons (pg_name (i := 3) sc_entries_cover.nd rfl (by first | exact .inl rfl | exact .inr rfl)) pgs_nil))) (show ∀ i ∈ ([2, 3] : List Nat), i ∉ ([] : List Nat) from by decide)
  (sss_one (ss_if (st_cmp (vr_lt hr.u0) (se_var (i := 2)) (se_var (i := 3)) (by with_unfolding_all rfl))
  (sss_one (ss_ret se_bl))
  sss_nil)))
  (sss_one (ss_ret se_bl)))
theorem der__law_bag {P : Program} {w : World} {K : PySem.W.Frag} {mg : Str → Option Value} {base : Heap} (T : Tp P w K mg base) {f : Addr} (cdv : Value) (A : Around) (outer : List Env) (s : Shared) (H : Hp) (E : XK) (hr : RoomG 0 (A.deeper (PyProof.Rows.envOfC "_law_bag" (defScope s__law_bag) s.heap.objs.size f cdv)))
    (σ₀ : L2.St) (h₀ : Hp) (xc : Addr → Value → Option Addr → Prop) (hN : Hp) : SSs (cxOf (L2.CX P w) P w K mg base ["_law_script", "_law_cells", "_law_cell", "_law_great", "_law_seed"] "_law_bag" (defScope s__law_bag) f cdv A outer s H E) ⟨[], σ₀, h₀, xc, hN⟩ (fun cls d _ H => E cls d H) (defBody s__law_bag) (w__law_bag) :=
  (sss_cons (ss_setLcV (own := [("_law_cell", 2)]) (i := 1) (show 1 ∉ ([] : List Nat) from by decide) rfl sc__law_bag.nd rfl rfl (show BlkOk ["_law_script", "_law_cells", "_law_cell", "_law_great", "_law_seed"] (defScope s__law_bag) _ [("_law_cell", 2)] from ⟨rfl, by decide +kernel, by decide +kernel, by decide +kernel, by decide +kernel⟩) (si_it (se_sl (se_var (i := 0)) so_none (so_some se_int))) (show ∀ i ∈ ([2] : List Nat), i ∉ ([] : List Nat) from by decide) (show ∀ i ∈ ([2] : List Nat), i ∈ ([2] : List Nat) from by decide) (fun _ _ _ _ _ => (sg_name (i := 2) sc__law_bag.nd rfl (by first | exact .inl rfl | exact .inr rfl))) (fun _ _ _ _ _ => sts_nil) (fun _ _ _ _ _ => (se_callTy vl_int (by rfl) T.z_int (by with_unfolding_all rfl) (sa_cons (se_var (i := 2)) sa_nil))))
  (sss_cons (ss_set (i := 3) (show 3 ∉ ([] : List Nat) from by decide) sc__law_bag.nd rfl (by first | exact .inl rfl | exact .inr rfl) se_int)
  (sss_cons (ss_set (i := 4) (show 4 ∉ ([] : List Nat) from by decide) sc__law_bag.nd rfl (by first | exact .inl rfl | exact .inr rfl) se_int)
  (sss_cons (ss_for poF rfl (si_it (se_var (i := 1))) (sg_name (i := 2) sc__law_bag.nd rfl (by first | exact .inl rfl | exact .inr rfl)) (show ∀ i ∈ ([2] : List Nat), i ∉ ([] : List Nat) from by decide)
  (sss_cons (ss_set (i := 4) (show 4 ∉ ([] : List Nat) from by decide) sc__law_bag.nd rfl (by first | exact .inl rfl | exact .inr rfl) (se_op vr_mod (se_callTy vl_int (by rfl) T.z_int (by with_unfolding_all rfl) (sa_cons (se_op vr_add (se_op vr_add (se_op vr_mulT (se_var (i := 4)) se_int) (se_op vr_mod (se_callTy vl_int (by rfl) T.z_int (by with_unfolding_all rfl) (sa_cons (se_var (i := 2)) sa_nil)) se_int)) se_int) sa_nil)) se_int))
  (sss_one (ss_if (SPW.st (spw_and (st_cmp (vr_eq hr.u64) (se_var (i := 3)) se_int (by with_unfolding_all rfl)) (spw_and1 (st_cmp (vr_ge hr.u0) (se_callB vl_abs (by rfl) T.z_abs (by with_unfolding_all rfl) (sa_cons (se_var (i := 2)) sa_nil)) (se_op vr_pow se_int se_int) (by with_unfolding_all rfl)))))
  (sss_one (ss_set (i := 3) (show 3 ∉ ([] : List Nat) from by decide) sc__law_bag.nd rfl (by first | exact .inl rfl | exact .inr rfl) (se_callB vl_abs (by rfl) T.z_abs (by with_unfolding_all rfl) (sa_cons (se_var (i := 2)) sa_nil))))
  sss_nil))))
  (sss_one (ss_ret (se_lst (sa_cons (se_var (i := 3)) (sa_cons (se_var (i := 4)) (sa_cons se_int (sa_cons (se_var (i := 1)) sa_nil)))))))))))
theorem der__law_take {P : Program} {w : World} {K : PySem.W.Frag} {mg : Str → Option Value} {base : Heap} (T : Tp P w K mg base) {f : Addr} (cdv : Value) (A : Around) (outer : List Env) (s : Shared) (H : Hp) (E : XK) (hr : RoomG 0 (A.deeper (PyProof.Rows.envOfC "_law_take" (defScope s__law_take) s.heap.objs.size f cdv)))
    (σ₀ : L2.St) (h₀ : Hp) (xc : Addr → Value → Option Addr → Prop) (hN : Hp) : SSs (cxOf (L2.CX P w) P w K mg base ["_law_bag_here", "_law_many", "_law_digit", "_law_cells", "_law_cell", "_law_first", "_law_second", "_law_third"] "_law_take" (defScope s__law_take) f cdv A outer s H E) ⟨[0], σ₀, h₀, xc, hN⟩ (fun cls d _ H => E cls d H) (defBody s__law_take) (w__law_take) :=
  (sss_cons (ss_setIx (i := 0) (se_op vr_add (se_ix vi_ix (se_var (i := 0)) se_int) se_int) se_int)
  (sss_cons (ss_if (st_cmp (vr_gt hr.u0) (se_ix vi_ix (se_var (i := 0)) se_int) se_int (by with_unfolding_all rfl))
  (sss_cons (ss_set (i := 2) (show 2 ∉ ([0] : List Nat) from by decide) sc__law_take.nd rfl (by first | exact .inl rfl | exact .inr rfl) (se_op vr_mod (se_callTy vl_int (by rfl) T.z_int (by with_unfolding_all rfl) (sa_cons (se_ix vi_ix (se_var (i := 0)) se_int) sa_nil)) (se_var (i := 1))))
  (sss_cons (ss_setIx (i := 0) (se_op vr_div (se_ix vi_ix (se_var (i := 0)) se_int) (se_var (i := 1))) se_int)
  (sss_one (ss_ret (se_var (i := 2))))))
  sss_nil)
  (sss_cons (ss_set (i := 3) (show 3 ∉ ([0] : List Nat) from by decide) sc__law_take.nd rfl (by first | exact .inl rfl | exact .inr rfl) (se_ix vi_ix (se_var (i := 0)) se_int))
  (sss_cons (ss_if (st_not (st_tru (se_var (i := 3))))
  (sss_one (ss_ret (se_op vr_mod (se_callTy vl_int (by rfl) T.z_int (by with_unfolding_all rfl) (sa_cons (se_ix vi_ix (se_var (i := 0)) se_int) sa_nil)) (se_var (i := 1)))))
  sss_nil)
  (sss_cons (ss_set (i := 4) (show 4 ∉ ([0] : List Nat) from by decide) sc__law_take.nd rfl (by first | exact .inl rfl | exact .inr rfl) (se_ix vi_ix (se_var (i := 3)) (se_op vr_mod (se_callTy vl_int (by rfl) T.z_int (by with_unfolding_all rfl) (sa_cons (se_ix vi_ix (se_var (i := 0)) se_int) sa_nil)) (se_callB vl_len (by rfl) T.z_len (by with_unfolding_all rfl) (sa_cons (se_var (i := 3)) sa_nil)))))
  (sss_cons (ss_set (i := 5) (show 5 ∉ ([0] : List Nat) from by decide) sc__law_take.nd rfl (by first | exact .inl rfl | exact .inr rfl) (se_op vr_mod (se_callTy vl_int (by rfl) T.z_int (by with_unfolding_all rfl) (sa_cons (se_op vr_add (se_op vr_add (se_op vr_mulT (se_var (i := 4)) se_int) (se_op vr_mulT (se_ix vi_ix (se_var (i := 0)) se_int) se_int)) (se_ix vi_ix (se_var (i := 0)) se_int)) sa_nil)) se_int))
  (sss_cons (ss_set (i := 6) (show 6 ∉ ([0] : List Nat) from by decide) sc__law_take.nd rfl (by first | exact .inl rfl | exact .inr rfl) (se_op vr_mod (se_callTy vl_int (by rfl) T.z_int (by with_unfolding_all rfl) (sa_cons (se_op vr_add (se_op vr_mulT (se_var (i := 5)) (se_var (i := 5))) (se_ix vi_ix (se_var (i := 0)) se_int)) sa_nil)) se_int))
  (sss_cons (ss_set (i := 7) (show 7 ∉ ([0] : List Nat) from by decide) sc__law_take.nd rfl (by first | exact .inl rfl | exact .inr rfl) (se_op vr_mod (se_callTy vl_int (by rfl) T.z_int (by with_unfolding_all rfl) (sa_cons (se_op vr_add (se_op vr_mulT (se_var (i := 6)) (se_var (i := 6))) (se_ix vi_ix (se_var (i := 0)) se_int)) sa_nil)) se_int))
  (sss_one (ss_ret (se_op vr_mod (se_callTy vl_int (by rfl) T.z_int (by with_unfolding_all rfl) (sa_cons (se_op vr_div (se_var (i := 7)) se_int) sa_nil)) (se_var (i := 1)))))))))))))
theorem der__law_is_integer {P : Program} {w : World} {K : PySem.W.Frag} {mg : Str → Option Value} {base : Heap} (T : Tp P w K mg base) {f : Addr} (cdv : Value) (A : Around) (outer : List Env) (s : Shared) (H : Hp) (E : XK) (hr : RoomG 0 (A.deeper (PyProof.Rows.envOfC "_law_is_integer" (defScope s__law_is_integer) s.heap.objs.size f cdv)))
    (σ₀ : L2.St) (h₀ : Hp) (xc : Addr → Value → Option Addr → Prop) (hN : Hp) : SSs (cxOf (L2.CX P w) P w K mg base ["_law_value"] "_law_is_integer" (defScope s__law_is_integer) f cdv A outer s H E) ⟨[], σ₀, h₀, xc, hN⟩ (fun cls d _ H => E cls d H) (defBody s__law_is_integer) (w__law_is_integer) :=
  (sss_one (ss_ret (se_and (se_isi (T := .int) (se_var (i := 0)) (by rfl) T.z_isinstance (by rfl) T.z_int (by with_unfolding_all rfl)) (se_one (se_not (se_isi (T := .bl) (se_var (i := 0)) (by rfl) T.z_isinstance (by rfl) T.z_bool (by with_unfolding_all rfl)))))))
theorem der__law_odd {P : Program} {w : World} {K : PySem.W.Frag} {mg : Str → Option Value} {base : Heap} (T : Tp P w K mg base) {f : Addr} (cdv : Value) (A : Around) (outer : List Env) (s : Shared) (H : Hp) (E : XK) (hr : RoomG 0 (A.deeper (PyProof.Rows.envOfC "_law_odd" (defScope s__law_odd) s.heap.objs.size f cdv)))
    (σ₀ : L2.St) (h₀ : Hp) (xc : Addr → Value → Option Addr → Prop) (hN : Hp) : SSs (cxOf (L2.CX P w) P w K mg base ["_law_row", "_law_place", "_law_way", "_law_parts"] "_law_odd" (defScope s__law_odd) f cdv A outer s H E) ⟨[], σ₀, h₀, xc, hN⟩ (fun cls d _ H => E cls d H) (defBody s__law_odd) (w__law_odd) :=
  (sss_cons (ss_if (st_cmp (vr_eq hr.u64) (se_var (i := 2)) se_int (by with_unfolding_all rfl))
  (sss_one (ss_ret (se_callTy vl_list (by rfl) T.z_list (by with_unfolding_all rfl) (sa_cons (se_var (i := 0)) sa_nil))))
  sss_nil)
  (sss_cons (ss_if (st_cmp (vr_lt hr.u0) (se_var (i := 2)) se_int (by with_unfolding_all rfl))
  (sss_cons (ss_set (i := 3) (show 3 ∉ ([] : List Nat) from by decide) sc__law_odd.nd rfl (by first | exact .inl rfl | exact .inr rfl) (se_lst (sa_cons (se_tup (sa_cons (se_neg se_int) sa_nil)) (sa_cons (se_tup (sa_cons se_bl sa_nil)) (sa_cons (se_tup (sa_cons se_non sa_nil)) (sa_cons (se_tup (sa_cons se_str sa_nil)) (sa_cons (se_tup (sa_cons (se_tup (sa_cons se_int sa_nil)) sa_nil)) sa_nil)))))))
  (sss_one (ss_ret (se_op vr_add (se_op vr_add (se_sl (se_var (i := 0)) so_none (so_some (se_var (i := 1)))) (se_ix vi_ix (se_var (i := 3)) (se_op vr_sub (se_var (i := 2)) se_int))) (se_sl (se_var (i := 0)) (so_some (se_op vr_add (se_var (i := 1)) se_int)) so_none)))))
  sss_nil)
  (sss_cons (ss_if (st_cmp (vr_eq hr.u64) (se_var (i := 2)) se_int (by with_unfolding_all rfl))
  (sss_one (ss_ret (se_op vr_add (se_var (i := 0)) (se_tup (sa_cons se_int sa_nil)))))
  sss_nil)
  (sss_cons (ss_if (st_cmp (vr_eq hr.u64) (se_var (i := 2)) se_int (by with_unfolding_all rfl))
  (sss_one (ss_ret (se_sl (se_var (i := 0)) so_none (so_some (se_neg se_int)))))
  sss_nil)
  (sss_cons (ss_if (st_cmp (vr_eq hr.u64) (se_var (i := 2)) se_int (by with_unfolding_all rfl))
  (sss_one (ss_ret (se_tup sa_nil)))
  sss_nil)
  (sss_cons (ss_if (st_cmp (vr_eq hr.u64) (se_var (i := 2)) se_int (by with_unfolding_all rfl))
  (sss_one (ss_ret (se_tup (sa_cons se_int (sa_cons se_int (sa_cons se_int (sa_cons se_int (sa_cons se_int (sa_cons se_int (sa_cons se_int (sa_cons se_int (sa_cons se_int sa_nil))))))))))))
  sss_nil)
  (sss_cons (ss_if (st_cmp (vr_eq hr.u64) (se_var (i := 2)) se_int (by with_unfolding_all rfl))
  (sss_one (ss_ret se_non))
  sss_nil)
  (sss_cons (ss_if (st_cmp (vr_eq hr.u64) (se_var (i := 2)) se_int (by with_unfolding_all rfl))
  (sss_one (ss_ret se_str))
  sss_nil)
  (sss_one (ss_ret se_int))))))))))
theorem der__law_dues {P : Program} {w : World} {K : PySem.W.Frag} {mg : Str → Option Value} {base : Heap} (T : Tp P w K mg base) {f : Addr} (cdv : Value) (A : Around) (outer : List Env) (s : Shared) (H : Hp) (E : XK) (hr : RoomG 0 (A.deeper (PyProof.Rows.envOfC "_law_dues" (defScope s__law_dues) s.heap.objs.size f cdv)))
    (σ₀ : L2.St) (h₀ : Hp) (xc : Addr → Value → Option Addr → Prop) (hN : Hp) : SSs (cxOf (L2.CX P w) P w K mg base ["_law_row", "_law_odd_here", "_law_lone", "_law_dues_here"] "_law_dues" (defScope s__law_dues) f cdv A outer s H E) ⟨[], σ₀, h₀, xc, hN⟩ (fun cls d _ H => E cls d H) (defBody s__law_dues) (w__law_dues) :=
  (sss_cons (ss_set (i := 3) (show 3 ∉ ([] : List Nat) from by decide) sc__law_dues.nd rfl (by first | exact .inl rfl | exact .inr rfl) (se_op vr_mulT (se_lst (sa_cons (se_lst (sa_cons se_str (sa_cons (se_callB (vl_repr hr.u66 hr.gd) (by rfl) T.z_repr (by with_unfolding_all rfl) (sa_cons (se_var (i := 1)) sa_nil)) sa_nil))) sa_nil)) se_int))
  (sss_cons (ss_if (st_tru (se_var (i := 2)))
  (sss_one (ss_ret (se_op vr_add (se_var (i := 3)) (se_op vr_mulT (se_lst (sa_cons (se_lst (sa_cons se_str (sa_cons (se_callB (vl_repr hr.u66 hr.gd) (by rfl) T.z_repr (by with_unfolding_all rfl) (sa_cons (se_var (i := 1)) sa_nil)) sa_nil))) sa_nil)) se_int))))
  sss_nil)
  (sss_cons (ss_set (i := 3) (show 3 ∉ ([] : List Nat) from by decide) sc__law_dues.nd rfl (by first | exact .inl rfl | exact .inr rfl) (se_op vr_add (se_var (i := 3)) (se_lst (sa_cons (se_lst (sa_cons se_str (sa_cons (se_callB (vl_repr hr.u66 hr.gd) (by rfl) T.z_repr (by with_unfolding_all rfl) (sa_cons (se_var (i := 0)) sa_nil)) sa_nil))) (sa_cons (se_lst (sa_cons se_str (sa_cons (se_callB (vl_repr hr.u66 hr.gd) (by rfl) T.z_repr (by with_unfolding_all rfl) (sa_cons se_non sa_nil)) sa_nil))) (sa_cons (se_lst (sa_cons se_str (sa_cons (se_callB (vl_repr hr.u66 hr.gd) (by rfl) T.z_repr (by with_unfolding_all rfl) (sa_cons (se_var (i := 0)) sa_nil)) sa_nil))) (sa_cons (se_lst (sa_cons se_str (sa_cons (se_callB (vl_repr hr.u66 hr.gd) (by rfl) T.z_repr (by with_unfolding_all rfl) (sa_cons (se_var (i := 0)) sa_nil)) sa_nil))) sa_nil)))))))
  (sss_one (ss_ret (se_op vr_add (se_var (i := 3)) (se_op vr_mulT (se_lst (sa_cons (se_lst (sa_cons se_str (sa_cons se_str sa_nil))) sa_nil)) se_int)))))))
theorem der__law_kinds {P : Program} {w : World} {K : PySem.W.Frag} {mg : Str → Option Value} {base : Heap} (T : Tp P w K mg base) {f : Addr} (cdv : Value) (A : Around) (outer : List Env) (s : Shared) (H : Hp) (E : XK) (hr : RoomG 0 (A.deeper (PyProof.Rows.envOfC "_law_kinds" (defScope s__law_kinds) s.heap.objs.size f cdv)))
    (σ₀ : L2.St) (h₀ : Hp) (xc : Addr → Value → Option Addr → Prop) (hN : Hp) : SSs (cxOf (L2.CX P w) P w K mg base ["_law_e", "_law_found", "_law_k"] "_law_kinds" (defScope s__law_kinds) f cdv A outer s H E) ⟨[], σ₀, h₀, xc, hN⟩ (fun cls d _ H => E cls d H) (defBody s__law_kinds) (w__law_kinds) :=
  (sss_cons (ss_if (SPW.st (spw_or (st_not (st_tru (se_isVV (se_var (i := 0)) T.ec T.xg_CrowdError (by decide +kernel) (by rfl) T.z_isinstance (by rfl)))) (spw_or1 (st_not (st_tru (se_isVV (se_var (i := 0)) T.ec T.xg_ValueError (by decide +kernel) (by rfl) T.z_isinstance (by rfl)))))))
  (sss_one (ss_ret (se_lst sa_nil)))
  sss_nil)
  (sss_cons (ss_set (i := 1) (show 1 ∉ ([] : List Nat) from by decide) sc__law_kinds.nd rfl (by first | exact .inl rfl | exact .inr rfl) (se_lst (sa_cons (se_isVV (se_var (i := 0)) T.ec T.xg_InvalidName (by decide +kernel) (by rfl) T.z_isinstance (by rfl)) (sa_cons (se_isVV (se_var (i := 0)) T.ec T.xg_InvalidRow (by decide +kernel) (by rfl) T.z_isinstance (by rfl)) (sa_cons (se_isVV (se_var (i := 0)) T.ec T.xg_InvalidBox (by decide +kernel) (by rfl) T.z_isinstance (by rfl)) sa_nil)))))
  (sss_cons (ss_set (i := 1) (show 1 ∉ ([] : List Nat) from by decide) sc__law_kinds.nd rfl (by first | exact .inl rfl | exact .inr rfl) (se_op vr_add (se_var (i := 1)) (se_lst (sa_cons (se_isVV (se_var (i := 0)) T.ec T.xg_InvalidGroup (by decide +kernel) (by rfl) T.z_isinstance (by rfl)) (sa_cons (se_isVV (se_var (i := 0)) T.ec T.xg_InvalidScene (by decide +kernel) (by rfl) T.z_isinstance (by rfl)) (sa_cons (se_isVV (se_var (i := 0)) T.ec T.xg_InvalidTarget (by decide +kernel) (by rfl) T.z_isinstance (by rfl)) sa_nil))))))
  (sss_cons (ss_set (i := 1) (show 1 ∉ ([] : List Nat) from by decide) sc__law_kinds.nd rfl (by first | exact .inl rfl | exact .inr rfl) (se_op vr_add (se_var (i := 1)) (se_lst (sa_cons (se_isVV (se_var (i := 0)) T.ec T.xg_InvalidDeed (by decide +kernel) (by rfl) T.z_isinstance (by rfl)) (sa_cons (se_isVV (se_var (i := 0)) T.ec T.xg_InvalidStart (by decide +kernel) (by rfl) T.z_isinstance (by rfl)) (sa_cons (se_isVV (se_var (i := 0)) T.ec T.xg_InvalidWeights (by decide +kernel) (by rfl) T.z_isinstance (by rfl)) sa_nil))))))
  (sss_cons (ss_set (i := 1) (show 1 ∉ ([] : List Nat) from by decide) sc__law_kinds.nd rfl (by first | exact .inl rfl | exact .inr rfl) (se_op vr_add (se_var (i := 1)) (se_lst (sa_cons (se_isVV (se_var (i := 0)) T.ec T.xg_InvalidLine (by decide +kernel) (by rfl) T.z_isinstance (by rfl)) (sa_cons (se_isVV (se_var (i := 0)) T.ec T.xg_InvalidFilling (by decide +kernel) (by rfl) T.z_isinstance (by rfl)) (sa_cons (se_isVV (se_var (i := 0)) T.ec T.xg_InvalidFact (by decide +kernel) (by rfl) T.z_isinstance (by rfl)) sa_nil))))))
  (sss_cons (ss_set (i := 1) (show 1 ∉ ([] : List Nat) from by decide) sc__law_kinds.nd rfl (by first | exact .inl rfl | exact .inr rfl) (se_op vr_add (se_var (i := 1)) (se_lst (sa_cons (se_isVV (se_var (i := 0)) T.ec T.xg_NotPossible (by decide +kernel) (by rfl) T.z_isinstance (by rfl)) (sa_cons (se_isVV (se_var (i := 0)) T.ec T.xg_InvalidMachine (by decide +kernel) (by rfl) T.z_isinstance (by rfl)) (sa_cons (se_isVV (se_var (i := 0)) T.ec T.xg_InvalidSketch (by decide +kernel) (by rfl) T.z_isinstance (by rfl)) sa_nil))))))
  (sss_cons (ss_set (i := 1) (show 1 ∉ ([] : List Nat) from by decide) sc__law_kinds.nd rfl (by first | exact .inl rfl | exact .inr rfl) (se_op vr_add (se_var (i := 1)) (se_lst (sa_cons (se_isVV (se_var (i := 0)) T.ec T.xg_UnlikeFrames (by decide +kernel) (by rfl) T.z_isinstance (by rfl)) (sa_cons (se_isVV (se_var (i := 0)) T.ec T.xg_UnknownName (by decide +kernel) (by rfl) T.z_isinstance (by rfl)) (sa_cons (se_isVV (se_var (i := 0)) T.ec T.xg_DeedRefused (by decide +kernel) (by rfl) T.z_isinstance (by rfl)) sa_nil))))))
  (sss_cons (ss_set (i := 1) (show 1 ∉ ([] : List Nat) from by decide) sc__law_kinds.nd rfl (by first | exact .inl rfl | exact .inr rfl) (se_op vr_add (se_var (i := 1)) (se_lst (sa_cons (se_isVV (se_var (i := 0)) T.ec T.xg_InvalidText (by decide +kernel) (by rfl) T.z_isinstance (by rfl)) (sa_cons (se_isVV (se_var (i := 0)) T.ec T.xg_TooMany (by decide +kernel) (by rfl) T.z_isinstance (by rfl)) (sa_cons (se_isVV (se_var (i := 0)) T.ec T.xg_CallsPresent (by decide +kernel) (by rfl) T.z_isinstance (by rfl)) sa_nil))))))
  (sss_cons (ss_set (i := 1) (show 1 ∉ ([] : List Nat) from by decide) sc__law_kinds.nd rfl (by first | exact .inl rfl | exact .inr rfl) (se_op vr_add (se_var (i := 1)) (se_lst (sa_cons (se_isVV (se_var (i := 0)) T.ec T.xg_Contradiction (by decide +kernel) (by rfl) T.z_isinstance (by rfl)) (sa_cons (se_isVV (se_var (i := 0)) T.ec T.xg_NothingToUndo (by decide +kernel) (by rfl) T.z_isinstance (by rfl)) (sa_cons (se_isVV (se_var (i := 0)) T.ec T.xg_NothingToRedo (by decide +kernel) (by rfl) T.z_isinstance (by rfl)) sa_nil))))))
  (sss_one (ss_ret (se_lcV (own := [("_law_k", 2)]) rfl sc__law_kinds.nd (show BlkOk ["_law_e", "_law_found", "_law_k"] (defScope s__law_kinds) _ [("_law_k", 2)] from ⟨rfl, by decide +kernel, by decide +kernel, by decide +kernel, by decide +kernel⟩) (si_rng1 (by rfl) T.z_range (sa_cons se_int sa_nil)) (show ∀ i ∈ ([2] : List Nat), i ∉ ([] : List Nat) from by decide) (show ∀ i ∈ ([2] : List Nat), i ∈ ([2] : List Nat) from by decide) (fun _ _ _ _ _ => (sg_name (i := 2) sc__law_kinds.nd rfl (by first | exact .inl rfl | exact .inr rfl))) (fun _ _ _ _ _ => (sts_one (st_tru (se_ix vi_ix (se_var (i := 1)) (se_var (i := 2)))))) (fun _ _ _ _ _ => (se_var (i := 2)))))))))))))))
theorem der_is_row {P : Program} {w : World} {K : PySem.W.Frag} {mg : Str → Option Value} {base : Heap} (T : Tp P w K mg base) {S_is_integer : FSpec} (mS_is_integer : MonoF S_is_integer) (O_is_integer : Ok P w K mg base "is_integer" ["value"] 1 S_is_integer) {f : Addr} (cdv : Value) (A : Around) (outer : List Env) (s : Shared) (H : Hp) (E : XK) (hr : RoomG 1 (A.deeper (PyProof.Rows.envOfC "is_row" (defScope s_is_row) s.heap.objs.size f cdv)))
    (σ₀ : L2.St) (h₀ : Hp) (xc : Addr → Value → Option Addr → Prop) (hN : Hp) : SSs (cxOf (L2.CX P w) P w K mg base ["value", "width", "entry"] "is_row" (defScope s_is_row) f cdv A outer s H E) ⟨[], σ₀, h₀, xc, hN⟩ (fun cls d _ H => E cls d H) (defBody s_is_row) (w_is_row S_is_integer) :=
  (sss_cons (ss_if (st_not (st_tru (se_isi (T := .tup) (se_var (i := 0)) (by rfl) T.z_isinstance (by rfl) T.z_tuple (by with_unfolding_all rfl))))
  (sss_one (ss_ret se_bl))
  sss_nil)
  (sss_cons (ss_if (st_not (st_chain (vr_le hr.u0) (vr_le hr.u0) se_int (se_callB vl_len (by rfl) T.z_len (by with_unfolding_all rfl) (sa_cons (se_var (i := 0)) sa_nil)) (let ⟨_, h⟩ := T.c_WIDEST_ROW; se_globI (by rfl) h)))
  (sss_one (ss_ret se_bl))
  sss_nil)
  (sss_cons (ss_if (SPW.st (spw_and (st_cmp vr_isNotN (se_var (i := 1)) se_non (by with_unfolding_all rfl)) (spw_and1 (st_cmp (vr_ne hr.u64) (se_callB vl_len (by rfl) T.z_len (by with_unfolding_all rfl) (sa_cons (se_var (i := 0)) sa_nil)) (se_var (i := 1)) (by with_unfolding_all rfl)))))
  (sss_one (ss_ret se_bl))
  sss_nil)
  (sss_cons (ss_for poF rfl (si_it (se_var (i := 0))) (sg_name (i := 2) sc_is_row.nd rfl (by first | exact .inl rfl | exact .inr rfl)) (show ∀ i ∈ ([2] : List Nat), i ∉ ([] : List Nat) from by decide)
  (sss_one (ss_if (SPW.st (spw_or (st_not (st_tru (se_callO O_is_integer mS_is_integer tkF hr (by rfl) (sa_cons (se_frz (se_var (i := 2))) sa_nil)))) (spw_or1 (st_cmp (vr_lt hr.u0) (se_var (i := 2)) se_int (by with_unfolding_all rfl)))))
  (sss_one (ss_ret se_bl))
  sss_nil)))
  (sss_one (ss_ret se_bl))))))
theorem der__law_is_row {P : Program} {w : World} {K : PySem.W.Frag} {mg : Str → Option Value} {base : Heap} (T : Tp P w K mg base) {S__law_is_integer : FSpec} (mS__law_is_integer : MonoF S__law_is_integer) (O__law_is_integer : Ok P w K mg base "_law_is_integer" ["_law_value"] 1 S__law_is_integer) {f : Addr} (cdv : Value) (A : Around) (outer : List Env) (s : Shared) (H : Hp) (E : XK) (hr : RoomG 1 (A.deeper (PyProof.Rows.envOfC "_law_is_row" (defScope s__law_is_row) s.heap.objs.size f cdv)))
    (σ₀ : L2.St) (h₀ : Hp) (xc : Addr → Value → Option Addr → Prop) (hN : Hp) : SSs (cxOf (L2.CX P w) P w K mg base ["_law_value", "_law_width", "_law_entry_here"] "_law_is_row" (defScope s__law_is_row) f cdv A outer s H E) ⟨[], σ₀, h₀, xc, hN⟩ (fun cls d _ H => E cls d H) (defBody s__law_is_row) (w__law_is_row S__law_is_integer) :=
  (sss_cons (ss_if (SPW.st (spw_or (st_not (st_tru (se_isi (T := .tup) (se_var (i := 0)) (by rfl) T.z_isinstance (by rfl) T.z_tuple (by with_unfolding_all rfl)))) (spw_or1 (st_cmp (vr_ne hr.u64) (se_callB vl_len (by rfl) T.z_len (by with_unfolding_all rfl) (sa_cons (se_var (i := 0)) sa_nil)) (se_var (i := 1)) (by with_unfolding_all rfl)))))
  (sss_one (ss_ret se_bl))
  sss_nil)
  (sss_one (ss_ret (se_callB (vl_all rfl) (by rfl) T.z_all (by with_unfolding_all rfl) (sa_cons (se_lcV (own := [("_law_entry_here", 2)]) rfl sc__law_is_row.nd (show BlkOk ["_law_value", "_law_width", "_law_entry_here"] (defScope s__law_is_row) _ [("_law_entry_here", 2)] from ⟨rfl, by decide +kernel, by decide +kernel, by decide +kernel, by decide +kernel⟩) (si_it (se_var (i := 0))) (show ∀ i ∈ ([2] : List Nat), i ∉ ([] : List Nat) from by decide) (show ∀ i ∈ ([2] : List Nat), i ∈ ([2] : List Nat) from by decide) (fun _ _ _ _ _ => (sg_name (i := 2) sc__law_is_row.nd rfl (by first | exact .inl rfl | exact .inr rfl))) (fun _ _ _ _ _ => sts_nil) (fun _ _ _ _ _ => (se_and (se_callO O__law_is_integer mS__law_is_integer tk0 hr (by rfl) (sa_cons (se_frz (se_var (i := 2))) sa_nil)) (se_one (se_cmp (vr_ge hr.u0) (se_var (i := 2)) se_int (by with_unfolding_all rfl)))))) sa_nil)))))
theorem der__law_entry {P : Program} {w : World} {K : PySem.W.Frag} {mg : Str → Option Value} {base : Heap} (T : Tp P w K mg base) {S__law_take : FSpec} (mS__law_take : MonoF S__law_take) (O__law_take : Ok P w K mg base "_law_take" ["_law_bag_here", "_law_many"] 1 S__law_take) {f : Addr} (cdv : Value) (A : Around) (outer : List Env) (s : Shared) (H : Hp) (E : XK) (hr : RoomG 1 (A.deeper (PyProof.Rows.envOfC "_law_entry" (defScope s__law_entry) s.heap.objs.size f cdv)))
    (σ₀ : L2.St) (h₀ : Hp) (xc : Addr → Value → Option Addr → Prop) (hN : Hp) : SSs (cxOf (L2.CX P w) P w K mg base ["_law_bag_here", "_law_kind"] "_law_entry" (defScope s__law_entry) f cdv A outer s H E) ⟨[0], σ₀, h₀, xc, hN⟩ (fun cls d _ H => E cls d H) (defBody s__law_entry) (w__law_entry S__law_take) :=
  (sss_cons (ss_set (i := 1) (show 1 ∉ ([0] : List Nat) from by decide) sc__law_entry.nd rfl (by first | exact .inl rfl | exact .inr rfl) (se_callO O__law_take mS__law_take tkF hr (by rfl) (sa_cons (se_var (i := 0)) (sa_cons se_int sa_nil))))
  (sss_cons (ss_if (st_cmp (vr_lt hr.u0) (se_var (i := 1)) se_int (by with_unfolding_all rfl))
  (sss_one (ss_ret (se_op vr_div (se_var (i := 1)) se_int)))
  sss_nil)
  (sss_cons (ss_if (st_cmp (vr_eq hr.u64) (se_var (i := 1)) se_int (by with_unfolding_all rfl))
  (sss_one (ss_ret (se_callO O__law_take mS__law_take tkF hr (by rfl) (sa_cons (se_var (i := 0)) (sa_cons se_int sa_nil)))))
  sss_nil)
  (sss_one (ss_ret (se_op vr_add (se_op vr_pow se_int se_int) (se_callO O__law_take mS__law_take tkF hr (by rfl) (sa_cons (se_var (i := 0)) (sa_cons (se_frz (se_op vr_mulT se_int (se_op vr_pow se_int se_int))) sa_nil)))))))))
theorem der__law_word {P : Program} {w : World} {K : PySem.W.Frag} {mg : Str → Option Value} {base : Heap} (T : Tp P w K mg base) {S__law_take : FSpec} (mS__law_take : MonoF S__law_take) (O__law_take : Ok P w K mg base "_law_take" ["_law_bag_here", "_law_many"] 1 S__law_take) {f : Addr} (cdv : Value) (A : Around) (outer : List Env) (s : Shared) (H : Hp) (E : XK) (hr : RoomG 1 (A.deeper (PyProof.Rows.envOfC "_law_word" (defScope s__law_word) s.heap.objs.size f cdv)))
    (σ₀ : L2.St) (h₀ : Hp) (xc : Addr → Value → Option Addr → Prop) (hN : Hp) : SSs (cxOf (L2.CX P w) P w K mg base ["_law_bag_here", "_law_letters", "_law_k"] "_law_word" (defScope s__law_word) f cdv A outer s H E) ⟨[0], σ₀, h₀, xc, hN⟩ (fun cls d _ H => E cls d H) (defBody s__law_word) (w__law_word S__law_take) :=
  (sss_cons (ss_set (i := 1) (show 1 ∉ ([0] : List Nat) from by decide) sc__law_word.nd rfl (by first | exact .inl rfl | exact .inr rfl) se_str)
  (sss_one (ss_ret (se_join se_str (se_lcV (own := [("_law_k", 2)]) rfl sc__law_word.nd (show BlkOk ["_law_bag_here", "_law_letters", "_law_k"] (defScope s__law_word) _ [("_law_k", 2)] from ⟨rfl, by decide +kernel, by decide +kernel, by decide +kernel, by decide +kernel⟩) (si_rng1 (by rfl) T.z_range (sa_cons (se_op vr_add se_int (se_callO O__law_take mS__law_take tkF hr (by rfl) (sa_cons (se_var (i := 0)) (sa_cons se_int sa_nil)))) sa_nil)) (show ∀ i ∈ ([2] : List Nat), i ∉ ([0] : List Nat) from by decide) (show ∀ i ∈ ([2] : List Nat), i ∈ ([2] : List Nat) from by decide) (fun _ _ _ _ _ => (sg_name (i := 2) sc__law_word.nd rfl (by first | exact .inl rfl | exact .inr rfl))) (fun _ _ _ _ _ => sts_nil) (fun _ _ _ _ _ => (se_ix vi_ix (se_var (i := 1)) (se_callO O__law_take mS__law_take tk0 hr (by rfl) (sa_cons (se_var (i := 0)) (sa_cons se_int sa_nil))))))))))
theorem der_check_row {P : Program} {w : World} {K : PySem.W.Frag} {mg : Str → Option Value} {base : Heap} (T : Tp P w K mg base) {S_is_row : FSpec} (mS_is_row : MonoF S_is_row) (O_is_row : Ok P w K mg base "is_row" ["value", "width"] 2 S_is_row) {f : Addr} (cdv : Value) (A : Around) (outer : List Env) (s : Shared) (H : Hp) (E : XK) (hr : RoomG 2 (A.deeper (PyProof.Rows.envOfC "check_row" (defScope s_check_row) s.heap.objs.size f cdv)))
    (σ₀ : L2.St) (h₀ : Hp) (xc : Addr → Value → Option Addr → Prop) (hN : Hp) : SSs (cxOf (L2.CX P w) P w K mg base ["row", "width"] "check_row" (defScope s_check_row) f cdv A outer s H E) ⟨[], σ₀, h₀, xc, hN⟩ (fun cls d _ H => E cls d H) (defBody s_check_row) (w_check_row S_is_row) :=
  (sss_one (ss_if (st_not (st_tru (se_callO O_is_row mS_is_row tkF hr (by rfl) (sa_cons (se_frz (se_var (i := 0))) (sa_cons (se_frz (se_var (i := 1))) sa_nil)))))
  (sss_one (ss_raise1 T.x_InvalidRow.xc rfl tkF (hr.rm.mono (by decide)) (by rfl) (sa_cons (se_var (i := 0)) sa_nil)))
  sss_nil))
theorem der__law_near {P : Program} {w : World} {K : PySem.W.Frag} {mg : Str → Option Value} {base : Heap} (T : Tp P w K mg base) {S__law_take S__law_entry : FSpec} (mS__law_take : MonoF S__law_take) (mS__law_entry : MonoF S__law_entry) (O__law_take : Ok P w K mg base "_law_take" ["_law_bag_here", "_law_many"] 1 S__law_take) (O__law_entry : Ok P w K mg base "_law_entry" ["_law_bag_here"] 2 S__law_entry) {f : Addr} (cdv : Value) (A : Around) (outer : List Env) (s : Shared) (H : Hp) (E : XK) (hr : RoomG 2 (A.deeper (PyProof.Rows.envOfC "_law_near" (defScope s__law_near) s.heap.objs.size f cdv)))
    (σ₀ : L2.St) (h₀ : Hp) (xc : Addr → Value → Option Addr → Prop) (hN : Hp) : SSs (cxOf (L2.CX P w) P w K mg base ["_law_bag_here", "_law_row", "_law_mode", "_law_place", "_law_found", "_law_k", "_law_step"] "_law_near" (defScope s__law_near) f cdv A outer s H E) ⟨[0], σ₀, h₀, xc, hN⟩ (fun cls d _ H => E cls d H) (defBody s__law_near) (w__law_near S__law_take S__law_entry) :=
  (sss_cons (ss_set (i := 2) (show 2 ∉ ([0] : List Nat) from by decide) sc__law_near.nd rfl (by first | exact .inl rfl | exact .inr rfl) (se_callO O__law_take mS__law_take tkF hr (by rfl) (sa_cons (se_var (i := 0)) (sa_cons se_int sa_nil))))
  (sss_cons (ss_set (i := 3) (show 3 ∉ ([0] : List Nat) from by decide) sc__law_near.nd rfl (by first | exact .inl rfl | exact .inr rfl) (se_callO O__law_take mS__law_take tkF hr (by rfl) (sa_cons (se_var (i := 0)) (sa_cons (se_frz (se_callB vl_len (by rfl) T.z_len (by with_unfolding_all rfl) (sa_cons (se_var (i := 1)) sa_nil))) sa_nil))))
  (sss_cons (ss_set (i := 4) (show 4 ∉ ([0] : List Nat) from by decide) sc__law_near.nd rfl (by first | exact .inl rfl | exact .inr rfl) (se_lst sa_nil))
  (sss_cons (ss_for poF rfl (si_rng1 (by rfl) T.z_range (sa_cons (se_callB vl_len (by rfl) T.z_len (by with_unfolding_all rfl) (sa_cons (se_var (i := 1)) sa_nil)) sa_nil)) (sg_name (i := 5) sc__law_near.nd rfl (by first | exact .inl rfl | exact .inr rfl)) (show ∀ i ∈ ([5] : List Nat), i ∉ ([0] : List Nat) from by decide)
  (sss_cons (ss_set (i := 6) (show 6 ∉ ([0] : List Nat) from by decide) sc__law_near.nd rfl (by first | exact .inl rfl | exact .inr rfl) (se_callO O__law_take mS__law_take tkF hr (by rfl) (sa_cons (se_var (i := 0)) (sa_cons se_int sa_nil))))
  (sss_one (ss_if (SPW.st (spw_and (st_cmp (vr_eq hr.u64) (se_var (i := 2)) se_int (by with_unfolding_all rfl)) (spw_and1 (st_cmp (vr_eq hr.u64) (se_var (i := 5)) (se_var (i := 3)) (by with_unfolding_all rfl)))))
  (sss_one (ss_app (i := 4) (se_op vr_add (se_ix vi_ix (se_var (i := 1)) (se_var (i := 5))) se_int)))
  (sss_one (ss_if (st_cmp (vr_eq hr.u64) (se_var (i := 6)) se_int (by with_unfolding_all rfl))
  (sss_one (ss_app (i := 4) (se_ix vi_ix (se_var (i := 1)) (se_var (i := 5)))))
  (sss_one (ss_if (st_cmp (vr_eq hr.u64) (se_var (i := 6)) se_int (by with_unfolding_all rfl))
  (sss_one (ss_app (i := 4) (se_callB (vl_max2 rfl) (by rfl) T.z_max (by with_unfolding_all rfl) (sa_cons (se_op vr_sub (se_ix vi_ix (se_var (i := 1)) (se_var (i := 5))) se_int) (sa_cons se_int sa_nil)))))
  (sss_one (ss_if (st_cmp (vr_eq hr.u64) (se_var (i := 2)) se_int (by with_unfolding_all rfl))
  (sss_one (ss_app (i := 4) (se_callO O__law_entry mS__law_entry tkF hr (by rfl) (sa_cons (se_var (i := 0)) sa_nil))))
  (sss_one (ss_app (i := 4) (se_callO O__law_take mS__law_take tkF hr (by rfl) (sa_cons (se_var (i := 0)) (sa_cons (se_frz (se_op vr_add (se_ix vi_ix (se_var (i := 1)) (se_var (i := 5))) se_int)) sa_nil)))))))))))))))
  (sss_one (ss_ret (se_callTy vl_tuple (by rfl) T.z_tuple (by with_unfolding_all rfl) (sa_cons (se_var (i := 4)) sa_nil))))))))
theorem der__law_valued {P : Program} {w : World} {K : PySem.W.Frag} {mg : Str → Option Value} {base : Heap} (T : Tp P w K mg base) {S__law_kinds : FSpec} (mS__law_kinds : MonoF S__law_kinds) (O__law_kinds : Ok P w K mg base "_law_kinds" ["_law_e"] 1 S__law_kinds) {f : Addr} (cdv : Value) (A : Around) (outer : List Env) (s : Shared) (H : Hp) (E : XK) (hr : RoomG 2 (A.deeper (PyProof.Rows.envOfC "_law_valued" (defScope s__law_valued) s.heap.objs.size f cdv)))
    (σ₀ : L2.St) (h₀ : Hp) (xc : Addr → Value → Option Addr → Prop) (hN : Hp) : SSs (cxOf (L2.CX P w) P w K mg base ["_law_thing", "_law_errors", "_law_e", "_law_k"] "_law_valued" (defScope s__law_valued) f cdv A outer s H E) ⟨[], σ₀, h₀, xc, hN⟩ (fun cls d _ H => E cls d H) (defBody s__law_valued) (w__law_valued S__law_kinds) :=
  (sss_cons (ss_set (i := 1) (show 1 ∉ ([] : List Nat) from by decide) sc__law_valued.nd rfl (by first | exact .inl rfl | exact .inr rfl) (se_lst (sa_cons (se_mkX T.x_InvalidName.xv (hr.rm.mono (by decide)) (by rfl) (sa_cons (se_frz (se_var (i := 0))) sa_nil)) (sa_cons (se_mkX T.x_InvalidRow.xv (hr.rm.mono (by decide)) (by rfl) (sa_cons (se_frz (se_var (i := 0))) sa_nil)) (sa_cons (se_mkX T.x_InvalidBox.xv (hr.rm.mono (by decide)) (by rfl) (sa_cons (se_frz (se_var (i := 0))) sa_nil)) (sa_cons (se_mkX T.x_InvalidGroup.xv (hr.rm.mono (by decide)) (by rfl) (sa_cons (se_frz (se_var (i := 0))) sa_nil)) (sa_cons (se_mkX T.x_InvalidScene.xv (hr.rm.mono (by decide)) (by rfl) (sa_cons (se_frz (se_var (i := 0))) sa_nil)) sa_nil)))))))
  (sss_cons (ss_set (i := 1) (show 1 ∉ ([] : List Nat) from by decide) sc__law_valued.nd rfl (by first | exact .inl rfl | exact .inr rfl) (se_op vr_add (se_var (i := 1)) (se_lst (sa_cons (se_mkX T.x_InvalidTarget.xv (hr.rm.mono (by decide)) (by rfl) (sa_cons (se_frz (se_var (i := 0))) sa_nil)) (sa_cons (se_mkX T.x_InvalidDeed.xv (hr.rm.mono (by decide)) (by rfl) (sa_cons (se_frz (se_var (i := 0))) sa_nil)) (sa_cons (se_mkX T.x_InvalidStart.xv (hr.rm.mono (by decide)) (by rfl) (sa_cons (se_frz (se_var (i := 0))) sa_nil)) (sa_cons (se_mkX T.x_InvalidWeights.xv (hr.rm.mono (by decide)) (by rfl) (sa_cons (se_frz (se_var (i := 0))) sa_nil)) sa_nil)))))))
  (sss_cons (ss_set (i := 1) (show 1 ∉ ([] : List Nat) from by decide) sc__law_valued.nd rfl (by first | exact .inl rfl | exact .inr rfl) (se_op vr_add (se_var (i := 1)) (se_lst (sa_cons (se_mkX T.x_InvalidLine.xv (hr.rm.mono (by decide)) (by rfl) (sa_cons (se_frz (se_var (i := 0))) sa_nil)) (sa_cons (se_mkX T.x_InvalidFilling.xv (hr.rm.mono (by decide)) (by rfl) (sa_cons (se_frz (se_var (i := 0))) sa_nil)) (sa_cons (se_mkX T.x_InvalidFact.xv (hr.rm.mono (by decide)) (by rfl) (sa_cons (se_frz (se_var (i := 0))) sa_nil)) (sa_cons (se_mkX T.x_NotPossible.xv (hr.rm.mono (by decide)) (by rfl) (sa_cons (se_frz (se_var (i := 0))) sa_nil)) sa_nil)))))))
  (sss_cons (ss_if (st_cmp (vr_ne hr.u64) (se_lcV (own := [("_law_e", 2)]) rfl sc__law_valued.nd (show BlkOk ["_law_thing", "_law_errors", "_law_e", "_law_k"] (defScope s__law_valued) _ [("_law_e", 2)] from ⟨rfl, by decide +kernel, by decide +kernel, by decide +kernel, by decide +kernel⟩) (si_it (se_var (i := 1))) (show ∀ i ∈ ([2] : List Nat), i ∉ ([] : List Nat) from by decide) (show ∀ i ∈ ([2] : List Nat), i ∈ ([2] : List Nat) from by decide) (fun _ _ _ _ _ => (sg_name (i := 2) sc__law_valued.nd rfl (by first | exact .inl rfl | exact .inr rfl))) (fun _ _ _ _ _ => sts_nil) (fun _ _ _ _ _ => (se_callB (vl_repr hr.u66 hr.gd) (by rfl) T.z_repr (by with_unfolding_all rfl) (sa_cons (se_xf (Cs := ["InvalidName", "InvalidRow", "InvalidBox", "InvalidGroup", "InvalidScene", "InvalidTarget", "InvalidDeed", "InvalidStart", "InvalidWeights", "InvalidLine", "InvalidFilling", "InvalidFact", "NotPossible"]) (se_var (i := 2)) (by intro C hC; simp only [List.mem_cons, List.not_mem_nil, or_false] at hC; rcases hC with rfl | rfl | rfl | rfl | rfl | rfl | rfl | rfl | rfl | rfl | rfl | rfl | rfl <;> first | exact T.x_InvalidName.xfa | exact T.x_InvalidRow.xfa | exact T.x_InvalidBox.xfa | exact T.x_InvalidGroup.xfa | exact T.x_InvalidScene.xfa | exact T.x_InvalidTarget.xfa | exact T.x_InvalidDeed.xfa | exact T.x_InvalidStart.xfa | exact T.x_InvalidWeights.xfa | exact T.x_InvalidLine.xfa | exact T.x_InvalidFilling.xfa | exact T.x_InvalidFact.xfa | exact T.x_NotPossible.xfa)) sa_nil)))) (se_op vr_mulT (se_lst (sa_cons (se_callB (vl_repr hr.u66 hr.gd) (by rfl) T.z_repr (by with_unfolding_all rfl) (sa_cons (se_var (i := 0)) sa_nil)) sa_nil)) se_int) (by with_unfolding_all rfl))
  (sss_one (ss_ret se_bl))
  sss_nil)
  (sss_one (ss_ret (se_cmp (vr_eq hr.u64) (se_lcV (own := [("_law_e", 2)]) rfl sc__law_valued.nd (show BlkOk ["_law_thing", "_law_errors", "_law_e", "_law_k"] (defScope s__law_valued) _ [("_law_e", 2)] from ⟨rfl, by decide +kernel, by decide +kernel, by decide +kernel, by decide +kernel⟩) (si_it (se_var (i := 1))) (show ∀ i ∈ ([2] : List Nat), i ∉ ([] : List Nat) from by decide) (show ∀ i ∈ ([2] : List Nat), i ∈ ([2] : List Nat) from by decide) (fun _ _ _ _ _ => (sg_name (i := 2) sc__law_valued.nd rfl (by first | exact .inl rfl | exact .inr rfl))) (fun _ _ _ _ _ => sts_nil) (fun _ _ _ _ _ => (se_callO O__law_kinds mS__law_kinds tk0 hr (by rfl) (sa_cons (se_frz (se_var (i := 2))) sa_nil)))) (se_lcV (own := [("_law_k", 3)]) rfl sc__law_valued.nd (show BlkOk ["_law_thing", "_law_errors", "_law_e", "_law_k"] (defScope s__law_valued) _ [("_law_k", 3)] from ⟨rfl, by decide +kernel, by decide +kernel, by decide +kernel, by decide +kernel⟩) (si_rng1 (by rfl) T.z_range (sa_cons se_int sa_nil)) (show ∀ i ∈ ([3] : List Nat), i ∉ ([] : List Nat) from by decide) (show ∀ i ∈ ([3] : List Nat), i ∈ ([3] : List Nat) from by decide) (fun _ _ _ _ _ => (sg_name (i := 3) sc__law_valued.nd rfl (by first | exact .inl rfl | exact .inr rfl))) (fun _ _ _ _ _ => sts_nil) (fun _ _ _ _ _ => (se_lst (sa_cons (se_var (i := 3)) sa_nil)))) (by with_unfolding_all rfl))))))))
theorem der__law_others {P : Program} {w : World} {K : PySem.W.Frag} {mg : Str → Option Value} {base : Heap} (T : Tp P w K mg base) {S__law_kinds : FSpec} (mS__law_kinds : MonoF S__law_kinds) (O__law_kinds : Ok P w K mg base "_law_kinds" ["_law_e"] 1 S__law_kinds) {f : Addr} (cdv : Value) (A : Around) (outer : List Env) (s : Shared) (H : Hp) (E : XK) (hr : RoomG 2 (A.deeper (PyProof.Rows.envOfC "_law_others" (defScope s__law_others) s.heap.objs.size f cdv)))
    (σ₀ : L2.St) (h₀ : Hp) (xc : Addr → Value → Option Addr → Prop) (hN : Hp) : SSs (cxOf (L2.CX P w) P w K mg base ["_law_number", "_law_word_here", "_law_parts", "_law_e", "_law_named", "_law_told_here", "_law_reasons"] "_law_others" (defScope s__law_others) f cdv A outer s H E) ⟨[], σ₀, h₀, xc, hN⟩ (fun cls d _ H => E cls d H) (defBody s__law_others) (w__law_others S__law_kinds) :=
  (sss_cons (ss_set (i := 2) (show 2 ∉ ([] : List Nat) from by decide) sc__law_others.nd rfl (by first | exact .inl rfl | exact .inr rfl) (se_lst (sa_cons (se_mkX T.x_InvalidMachine.xv (hr.rm.mono (by decide)) (by rfl) (sa_cons (se_frz (se_var (i := 1))) sa_nil)) (sa_cons (se_mkX T.x_InvalidSketch.xv (hr.rm.mono (by decide)) (by rfl) (sa_cons (se_frz (se_var (i := 1))) sa_nil)) (sa_cons (se_mkX T.x_UnlikeFrames.xv (hr.rm.mono (by decide)) (by rfl) (sa_cons (se_frz (se_var (i := 1))) sa_nil)) sa_nil)))))
  (sss_cons (ss_if (SPW.st (spw_or (st_cmp (vr_ne hr.u64) (se_lcV (own := [("_law_e", 3)]) rfl sc__law_others.nd (show BlkOk ["_law_number", "_law_word_here", "_law_parts", "_law_e", "_law_named", "_law_told_here", "_law_reasons"] (defScope s__law_others) _ [("_law_e", 3)] from ⟨rfl, by decide +kernel, by decide +kernel, by decide +kernel, by decide +kernel⟩) (si_it (se_var (i := 2))) (show ∀ i ∈ ([3] : List Nat), i ∉ ([] : List Nat) from by decide) (show ∀ i ∈ ([3] : List Nat), i ∈ ([3] : List Nat) from by decide) (fun _ _ _ _ _ => (sg_name (i := 3) sc__law_others.nd rfl (by first | exact .inl rfl | exact .inr rfl))) (fun _ _ _ _ _ => sts_nil) (fun _ _ _ _ _ => (se_callB (vl_repr hr.u66 hr.gd) (by rfl) T.z_repr (by with_unfolding_all rfl) (sa_cons (se_xf (Cs := ["InvalidMachine", "InvalidSketch", "UnlikeFrames"]) (se_var (i := 3)) (by intro C hC; simp only [List.mem_cons, List.not_mem_nil, or_false] at hC; rcases hC with rfl | rfl | rfl <;> first | exact T.x_InvalidMachine.xfa | exact T.x_InvalidSketch.xfa | exact T.x_UnlikeFrames.xfa)) sa_nil)))) (se_op vr_mulT (se_lst (sa_cons (se_callB (vl_repr hr.u66 hr.gd) (by rfl) T.z_repr (by with_unfolding_all rfl) (sa_cons (se_var (i := 1)) sa_nil)) sa_nil)) se_int) (by with_unfolding_all rfl)) (spw_or1 (st_cmp (vr_ne hr.u64) (se_lcV (own := [("_law_e", 3)]) rfl sc__law_others.nd (show BlkOk ["_law_number", "_law_word_here", "_law_parts", "_law_e", "_law_named", "_law_told_here", "_law_reasons"] (defScope s__law_others) _ [("_law_e", 3)] from ⟨rfl, by decide +kernel, by decide +kernel, by decide +kernel, by decide +kernel⟩) (si_it (se_var (i := 2))) (show ∀ i ∈ ([3] : List Nat), i ∉ ([] : List Nat) from by decide) (show ∀ i ∈ ([3] : List Nat), i ∈ ([3] : List Nat) from by decide) (fun _ _ _ _ _ => (sg_name (i := 3) sc__law_others.nd rfl (by first | exact .inl rfl | exact .inr rfl))) (fun _ _ _ _ _ => sts_nil) (fun _ _ _ _ _ => (se_callO O__law_kinds mS__law_kinds tk0 hr (by rfl) (sa_cons (se_frz (se_var (i := 3))) sa_nil)))) (se_lst (sa_cons (se_lst (sa_cons se_int sa_nil)) (sa_cons (se_lst (sa_cons se_int sa_nil)) (sa_cons (se_lst (sa_cons se_int sa_nil)) sa_nil)))) (by with_unfolding_all rfl)))))
  (sss_one (ss_ret se_bl))
  sss_nil)
  (sss_cons (ss_set (i := 4) (show 4 ∉ ([] : List Nat) from by decide) sc__law_others.nd rfl (by first | exact .inl rfl | exact .inr rfl) (se_lst (sa_cons (se_mkX T.x_UnknownName.xv (hr.rm.mono (by decide)) (by rfl) (sa_cons (se_frz (se_var (i := 1))) sa_nil)) (sa_cons (se_mkX T.x_DeedRefused.xv (hr.rm.mono (by decide)) (by rfl) (sa_cons (se_frz (se_var (i := 1))) (sa_cons (se_frz (se_var (i := 0))) sa_nil))) (sa_cons (se_mkX T.x_CallsPresent.xv (hr.rm.mono (by decide)) (by rfl) (sa_cons (se_frz (se_var (i := 1))) sa_nil)) sa_nil)))))
  (sss_cons (ss_if (SPW.st (spw_or (st_cmp (vr_ne hr.u64) (se_lcV (own := [("_law_e", 3)]) rfl sc__law_others.nd (show BlkOk ["_law_number", "_law_word_here", "_law_parts", "_law_e", "_law_named", "_law_told_here", "_law_reasons"] (defScope s__law_others) _ [("_law_e", 3)] from ⟨rfl, by decide +kernel, by decide +kernel, by decide +kernel, by decide +kernel⟩) (si_it (se_var (i := 4))) (show ∀ i ∈ ([3] : List Nat), i ∉ ([] : List Nat) from by decide) (show ∀ i ∈ ([3] : List Nat), i ∈ ([3] : List Nat) from by decide) (fun _ _ _ _ _ => (sg_name (i := 3) sc__law_others.nd rfl (by first | exact .inl rfl | exact .inr rfl))) (fun _ _ _ _ _ => sts_nil) (fun _ _ _ _ _ => (se_callB (vl_repr hr.u66 hr.gd) (by rfl) T.z_repr (by with_unfolding_all rfl) (sa_cons (se_xf (Cs := ["UnknownName", "DeedRefused", "CallsPresent"]) (se_var (i := 3)) (by intro C hC; simp only [List.mem_cons, List.not_mem_nil, or_false] at hC; rcases hC with rfl | rfl | rfl <;> first | exact T.x_UnknownName.xfa | exact T.x_DeedRefused.xfa | exact T.x_CallsPresent.xfa)) sa_nil)))) (se_op vr_mulT (se_lst (sa_cons (se_callB (vl_repr hr.u66 hr.gd) (by rfl) T.z_repr (by with_unfolding_all rfl) (sa_cons (se_var (i := 1)) sa_nil)) sa_nil)) se_int) (by with_unfolding_all rfl)) (spw_or1 (st_cmp (vr_ne hr.u64) (se_lcV (own := [("_law_e", 3)]) rfl sc__law_others.nd (show BlkOk ["_law_number", "_law_word_here", "_law_parts", "_law_e", "_law_named", "_law_told_here", "_law_reasons"] (defScope s__law_others) _ [("_law_e", 3)] from ⟨rfl, by decide +kernel, by decide +kernel, by decide +kernel, by decide +kernel⟩) (si_it (se_var (i := 4))) (show ∀ i ∈ ([3] : List Nat), i ∉ ([] : List Nat) from by decide) (show ∀ i ∈ ([3] : List Nat), i ∈ ([3] : List Nat) from by decide) (fun _ _ _ _ _ => (sg_name (i := 3) sc__law_others.nd rfl (by first | exact .inl rfl | exact .inr rfl))) (fun _ _ _ _ _ => sts_nil) (fun _ _ _ _ _ => (se_callO O__law_kinds mS__law_kinds tk0 hr (by rfl) (sa_cons (se_frz (se_var (i := 3))) sa_nil)))) (se_lst (sa_cons (se_lst (sa_cons se_int sa_nil)) (sa_cons (se_lst (sa_cons se_int sa_nil)) (sa_cons (se_lst (sa_cons se_int sa_nil)) sa_nil)))) (by with_unfolding_all rfl)))))
  (sss_one (ss_ret se_bl))
  sss_nil)
  (sss_cons (ss_set (i := 5) (show 5 ∉ ([] : List Nat) from by decide) sc__law_others.nd rfl (by first | exact .inl rfl | exact .inr rfl) (se_lst (sa_cons (se_xf (Cs := ["DeedRefused"]) (se_ix vi_ix (se_var (i := 4)) se_int) (by intro C hC; simp only [List.mem_cons, List.not_mem_nil, or_false] at hC; rcases hC with rfl <;> first | exact T.x_DeedRefused.xfb)) (sa_cons (se_xf (Cs := ["InvalidText"]) (se_mkX T.x_InvalidText.xv (hr.rm.mono (by decide)) (by rfl) (sa_cons (se_frz (se_var (i := 0))) sa_nil)) (by intro C hC; simp only [List.mem_cons, List.not_mem_nil, or_false] at hC; rcases hC with rfl <;> first | exact T.x_InvalidText.xfa)) (sa_cons (se_xf (Cs := ["TooMany"]) (se_mkX T.x_TooMany.xv (hr.rm.mono (by decide)) (by rfl) (sa_cons (se_frz (se_var (i := 0))) sa_nil)) (by intro C hC; simp only [List.mem_cons, List.not_mem_nil, or_false] at hC; rcases hC with rfl <;> first | exact T.x_TooMany.xfa)) sa_nil)))))
  (sss_cons (ss_if (st_cmp (vr_ne hr.u64) (se_callB (vl_repr hr.u66 hr.gd) (by rfl) T.z_repr (by with_unfolding_all rfl) (sa_cons (se_var (i := 5)) sa_nil)) (se_callB (vl_repr hr.u66 hr.gd) (by rfl) T.z_repr (by with_unfolding_all rfl) (sa_cons (se_lst (sa_cons (se_var (i := 0)) (sa_cons (se_var (i := 0)) (sa_cons (se_var (i := 0)) sa_nil)))) sa_nil)) (by with_unfolding_all rfl))
  (sss_one (ss_ret se_bl))
  sss_nil)
  (sss_cons (ss_if (SPW.st (spw_or (st_cmp (vr_ne hr.u64) (se_callO O__law_kinds mS__law_kinds tkF hr (by rfl) (sa_cons (se_frz (se_mkX T.x_InvalidText.xv (hr.rm.mono (by decide)) (by rfl) (sa_cons (se_frz (se_var (i := 0))) sa_nil))) sa_nil)) (se_lst (sa_cons se_int sa_nil)) (by with_unfolding_all rfl)) (spw_or1 (st_cmp (vr_ne hr.u64) (se_callO O__law_kinds mS__law_kinds tkF hr (by rfl) (sa_cons (se_frz (se_mkX T.x_TooMany.xv (hr.rm.mono (by decide)) (by rfl) (sa_cons (se_frz (se_var (i := 0))) sa_nil))) sa_nil)) (se_lst (sa_cons se_int sa_nil)) (by with_unfolding_all rfl)))))
  (sss_one (ss_ret se_bl))
  sss_nil)
  (sss_cons (ss_set (i := 6) (show 6 ∉ ([] : List Nat) from by decide) sc__law_others.nd rfl (by first | exact .inl rfl | exact .inr rfl) (se_xf (Cs := ["Contradiction"]) (se_mkX T.x_Contradiction.xv (hr.rm.mono (by decide)) (by rfl) (sa_cons (se_frz (se_lst (sa_cons se_int (sa_cons (se_var (i := 0)) sa_nil)))) sa_nil)) (by intro C hC; simp only [List.mem_cons, List.not_mem_nil, or_false] at hC; rcases hC with rfl <;> first | exact T.x_Contradiction.xfa)))
  (sss_cons (ss_if (SPW.st (spw_or (st_cmp (vr_ne hr.u64) (se_callB (vl_repr hr.u66 hr.gd) (by rfl) T.z_repr (by with_unfolding_all rfl) (sa_cons (se_var (i := 6)) sa_nil)) (se_callB (vl_repr hr.u66 hr.gd) (by rfl) T.z_repr (by with_unfolding_all rfl) (sa_cons (se_lst (sa_cons se_int (sa_cons (se_var (i := 0)) sa_nil))) sa_nil)) (by with_unfolding_all rfl)) (spw_or1 (st_cmp (vr_ne hr.u64) (se_callO O__law_kinds mS__law_kinds tkF hr (by rfl) (sa_cons (se_frz (se_mkX T.x_Contradiction.xv (hr.rm.mono (by decide)) (by rfl) (sa_cons (se_frz (se_lst (sa_cons (se_var (i := 0)) sa_nil))) sa_nil))) sa_nil)) (se_lst (sa_cons se_int sa_nil)) (by with_unfolding_all rfl)))))
  (sss_one (ss_ret se_bl))
  sss_nil)
  (sss_one (ss_ret (se_and (se_cmp (vr_eq hr.u64) (se_callO O__law_kinds mS__law_kinds tkF hr (by rfl) (sa_cons (se_frz (se_mkX0 T.x_NothingToUndo.xv (hr.rm.mono (by decide)) (by rfl))) sa_nil)) (se_lst (sa_cons se_int sa_nil)) (by with_unfolding_all rfl)) (se_one (se_cmp (vr_eq hr.u64) (se_callO O__law_kinds mS__law_kinds tkF hr (by rfl) (sa_cons (se_frz (se_mkX0 T.x_NothingToRedo.xv (hr.rm.mono (by decide)) (by rfl))) sa_nil)) (se_lst (sa_cons se_int sa_nil)) (by with_unfolding_all rfl)))))))))))))))
theorem der_check_rows {P : Program} {w : World} {K : PySem.W.Frag} {mg : Str → Option Value} {base : Heap} (T : Tp P w K mg base) {S_check_row : FSpec} (mS_check_row : MonoF S_check_row) (O_check_row : Ok P w K mg base "check_row" ["row", "width"] 3 S_check_row) {f : Addr} (cdv : Value) (A : Around) (outer : List Env) (s : Shared) (H : Hp) (E : XK) (hr : RoomG 3 (A.deeper (PyProof.Rows.envOfC "check_rows" (defScope s_check_rows) s.heap.objs.size f cdv)))
    (σ₀ : L2.St) (h₀ : Hp) (xc : Addr → Value → Option Addr → Prop) (hN : Hp) : SSs (cxOf (L2.CX P w) P w K mg base ["rows", "width", "row"] "check_rows" (defScope s_check_rows) f cdv A outer s H E) ⟨[], σ₀, h₀, xc, hN⟩ (fun cls d _ H => E cls d H) (defBody s_check_rows) (w_check_rows S_check_row) :=
  (sss_cons (ss_set (i := 1) (show 1 ∉ ([] : List Nat) from by decide) sc_check_rows.nd rfl (by first | exact .inl rfl | exact .inr rfl) se_non)
  (sss_one (ss_for poF rfl (si_it (se_var (i := 0))) (sg_name (i := 2) sc_check_rows.nd rfl (by first | exact .inl rfl | exact .inr rfl)) (show ∀ i ∈ ([2] : List Nat), i ∉ ([] : List Nat) from by decide)
  (sss_cons (ss_expr (se_callO O_check_row mS_check_row tkF hr (by rfl) (sa_cons (se_frz (se_var (i := 2))) (sa_cons (se_frz (se_var (i := 1))) sa_nil))))
  (sss_one (ss_set (i := 1) (show 1 ∉ ([] : List Nat) from by decide) sc_check_rows.nd rfl (by first | exact .inl rfl | exact .inr rfl) (se_callB vl_len (by rfl) T.z_len (by with_unfolding_all rfl) (sa_cons (se_var (i := 2)) sa_nil))))))))
theorem der_covers {P : Program} {w : World} {K : PySem.W.Frag} {mg : Str → Option Value} {base : Heap} (T : Tp P w K mg base) {S_check_row S_entries_cover : FSpec} (mS_check_row : MonoF S_check_row) (mS_entries_cover : MonoF S_entries_cover) (O_check_row : Ok P w K mg base "check_row" ["row", "width"] 3 S_check_row) (O_entries_cover : Ok P w K mg base "entries_cover" ["big", "small"] 1 S_entries_cover) {f : Addr} (cdv : Value) (A : Around) (outer : List Env) (s : Shared) (H : Hp) (E : XK) (hr : RoomG 3 (A.deeper (PyProof.Rows.envOfC "covers" (defScope s_covers) s.heap.objs.size f cdv)))
    (σ₀ : L2.St) (h₀ : Hp) (xc : Addr → Value → Option Addr → Prop) (hN : Hp) : SSs (cxOf (L2.CX P w) P w K mg base ["big", "small"] "covers" (defScope s_covers) f cdv A outer s H E) ⟨[], σ₀, h₀, xc, hN⟩ (fun cls d _ H => E cls d H) (defBody s_covers) (w_covers S_check_row S_entries_cover) :=
  (sss_cons (ss_expr (se_callO O_check_row mS_check_row tkF hr (by rfl) (sa_cons (se_frz (se_var (i := 0))) (sa_cons se_non sa_nil))))
  (sss_cons (ss_expr (se_callO O_check_row mS_check_row tkF hr (by rfl) (sa_cons (se_frz (se_var (i := 1))) (sa_cons (se_frz (se_callB vl_len (by rfl) T.z_len (by with_unfolding_all rfl) (sa_cons (se_var (i := 0)) sa_nil))) sa_nil))))
  (sss_one (ss_ret (se_callO O_entries_cover mS_entries_cover tkF hr (by rfl) (sa_cons (se_frz (se_var (i := 0))) (sa_cons (se_frz (se_var (i := 1))) sa_nil)))))))
theorem der_size {P : Program} {w : World} {K : PySem.W.Frag} {mg : Str → Option Value} {base : Heap} (T : Tp P w K mg base) {S_check_row : FSpec} (mS_check_row : MonoF S_check_row) (O_check_row : Ok P w K mg base "check_row" ["row", "width"] 3 S_check_row) {f : Addr} (cdv : Value) (A : Around) (outer : List Env) (s : Shared) (H : Hp) (E : XK) (hr : RoomG 3 (A.deeper (PyProof.Rows.envOfC "size" (defScope s_size) s.heap.objs.size f cdv)))
    (σ₀ : L2.St) (h₀ : Hp) (xc : Addr → Value → Option Addr → Prop) (hN : Hp) : SSs (cxOf (L2.CX P w) P w K mg base ["row"] "size" (defScope s_size) f cdv A outer s H E) ⟨[], σ₀, h₀, xc, hN⟩ (fun cls d _ H => E cls d H) (defBody s_size) (w_size S_check_row) :=
  (sss_cons (ss_expr (se_callO O_check_row mS_check_row tkF hr (by rfl) (sa_cons (se_frz (se_var (i := 0))) (sa_cons se_non sa_nil))))
  (sss_one (ss_ret (se_callB (vl_sumT rfl) (by rfl) T.z_sum (by with_unfolding_all rfl) (sa_cons (se_var (i := 0)) sa_nil)))))
theorem der__law_rows {P : Program} {w : World} {K : PySem.W.Frag} {mg : Str → Option Value} {base : Heap} (T : Tp P w K mg base) {S__law_entry S__law_near : FSpec} (mS__law_entry : MonoF S__law_entry) (mS__law_near : MonoF S__law_near) (O__law_entry : Ok P w K mg base "_law_entry" ["_law_bag_here"] 2 S__law_entry) (O__law_near : Ok P w K mg base "_law_near" ["_law_bag_here", "_law_row"] 3 S__law_near) {f : Addr} (cdv : Value) (A : Around) (outer : List Env) (s : Shared) (H : Hp) (E : XK) (hr : RoomG 3 (A.deeper (PyProof.Rows.envOfC "_law_rows" (defScope s__law_rows) s.heap.objs.size f cdv)))
    (σ₀ : L2.St) (h₀ : Hp) (xc : Addr → Value → Option Addr → Prop) (hN : Hp) : SSs (cxOf (L2.CX P w) P w K mg base ["_law_bag_here", "_law_width", "_law_first", "_law_k", "_law_second", "_law_third"] "_law_rows" (defScope s__law_rows) f cdv A outer s H E) ⟨[0], σ₀, h₀, xc, hN⟩ (fun cls d _ H => E cls d H) (defBody s__law_rows) (w__law_rows S__law_entry S__law_near) :=
  (sss_cons (ss_set (i := 2) (show 2 ∉ ([0] : List Nat) from by decide) sc__law_rows.nd rfl (by first | exact .inl rfl | exact .inr rfl) (se_callTy vl_tuple (by rfl) T.z_tuple (by with_unfolding_all rfl) (sa_cons (se_lcV (own := [("_law_k", 3)]) rfl sc__law_rows.nd (show BlkOk ["_law_bag_here", "_law_width", "_law_first", "_law_k", "_law_second", "_law_third"] (defScope s__law_rows) _ [("_law_k", 3)] from ⟨rfl, by decide +kernel, by decide +kernel, by decide +kernel, by decide +kernel⟩) (si_rng1 (by rfl) T.z_range (sa_cons (se_var (i := 1)) sa_nil)) (show ∀ i ∈ ([3] : List Nat), i ∉ ([0] : List Nat) from by decide) (show ∀ i ∈ ([3] : List Nat), i ∈ ([3] : List Nat) from by decide) (fun _ _ _ _ _ => (sg_name (i := 3) sc__law_rows.nd rfl (by first | exact .inl rfl | exact .inr rfl))) (fun _ _ _ _ _ => sts_nil) (fun _ _ _ _ _ => (se_callO O__law_entry mS__law_entry tk0 hr (by rfl) (sa_cons (se_var (i := 0)) sa_nil)))) sa_nil)))
  (sss_cons (ss_set (i := 4) (show 4 ∉ ([0] : List Nat) from by decide) sc__law_rows.nd rfl (by first | exact .inl rfl | exact .inr rfl) (se_callO O__law_near mS__law_near tkF hr (by rfl) (sa_cons (se_var (i := 0)) (sa_cons (se_frz (se_var (i := 2))) sa_nil))))
  (sss_cons (ss_set (i := 5) (show 5 ∉ ([0] : List Nat) from by decide) sc__law_rows.nd rfl (by first | exact .inl rfl | exact .inr rfl) (se_callTy vl_tuple (by rfl) T.z_tuple (by with_unfolding_all rfl) (sa_cons (se_lcV (own := [("_law_k", 3)]) rfl sc__law_rows.nd (show BlkOk ["_law_bag_here", "_law_width", "_law_first", "_law_k", "_law_second", "_law_third"] (defScope s__law_rows) _ [("_law_k", 3)] from ⟨rfl, by decide +kernel, by decide +kernel, by decide +kernel, by decide +kernel⟩) (si_rng1 (by rfl) T.z_range (sa_cons (se_var (i := 1)) sa_nil)) (show ∀ i ∈ ([3] : List Nat), i ∉ ([0] : List Nat) from by decide) (show ∀ i ∈ ([3] : List Nat), i ∈ ([3] : List Nat) from by decide) (fun _ _ _ _ _ => (sg_name (i := 3) sc__law_rows.nd rfl (by first | exact .inl rfl | exact .inr rfl))) (fun _ _ _ _ _ => sts_nil) (fun _ _ _ _ _ => (se_callO O__law_entry mS__law_entry tk0 hr (by rfl) (sa_cons (se_var (i := 0)) sa_nil)))) sa_nil)))
  (sss_one (ss_ret (se_lst (sa_cons (se_var (i := 2)) (sa_cons (se_var (i := 4)) (sa_cons (se_var (i := 5)) (sa_cons (se_callO O__law_near mS__law_near tkF hr (by rfl) (sa_cons (se_var (i := 0)) (sa_cons (se_frz (se_var (i := 5))) sa_nil))) sa_nil))))))))))
theorem der__law_caught {P : Program} {w : World} {K : PySem.W.Frag} {mg : Str → Option Value} {base : Heap} (T : Tp P w K mg base) {S_check_row : FSpec} (mS_check_row : MonoF S_check_row) (O_check_row : Ok P w K mg base "check_row" ["row", "width"] 3 S_check_row) {f : Addr} (cdv : Value) (A : Around) (outer : List Env) (s : Shared) (H : Hp) (E : XK) (hr : RoomG 3 (A.deeper (PyProof.Rows.envOfC "_law_caught" (defScope s__law_caught) s.heap.objs.size f cdv)))
    (σ₀ : L2.St) (h₀ : Hp) (xc : Addr → Value → Option Addr → Prop) (hN : Hp) : SSs (cxOf (L2.CX P w) P w K mg base ["_law_odd_here", "_law_e"] "_law_caught" (defScope s__law_caught) f cdv A outer s H E) ⟨[], σ₀, h₀, xc, hN⟩ (fun cls d _ H => E cls d H) (defBody s__law_caught) (w__law_caught S_check_row) :=
  (sss_cons (ss_tryB (l := [("InvalidRow", true)]) (i := 1) T.b_CrowdError rfl rfl sc__law_caught.nd rfl rfl (by rfl) tkF poF (show 1 ∉ ([] : List Nat) from by decide) (by intro p hp; simp only [List.mem_cons, List.not_mem_nil, or_false] at hp; rcases hp with rfl <;> first | exact T.e_InvalidRow_CrowdError) (fun _ _ _ tk' po' => (sss_one (ss_expr (se_callO O_check_row mS_check_row tk' hr (by rfl) (sa_cons (se_frz (se_var (i := 0))) (sa_cons se_int sa_nil))))))
  (fun _ _ _ _ _ hz hf => (sss_one (ss_ret (se_and (se_isXV (i := 1) T.ix_ValueError rfl hz hf (by rfl) T.z_isinstance (by rfl) rfl (.inl rfl)) (se_one (se_isXV (i := 1) T.ix_InvalidRow rfl hz hf (by rfl) T.z_isinstance (by rfl) rfl (.inl rfl))))))))
  (sss_one (ss_ret se_bl)))
theorem der_joined {P : Program} {w : World} {K : PySem.W.Frag} {mg : Str → Option Value} {base : Heap} (T : Tp P w K mg base) {S_check_rows : FSpec} (mS_check_rows : MonoF S_check_rows) (O_check_rows : Ok P w K mg base "check_rows" ["rows"] 4 S_check_rows) {f : Addr} (cdv : Value) (A : Around) (outer : List Env) (s : Shared) (H : Hp) (E : XK) (hr : RoomG 4 (A.deeper (PyProof.Rows.envOfC "joined" (defScope s_joined) s.heap.objs.size f cdv)))
    (σ₀ : L2.St) (h₀ : Hp) (xc : Addr → Value → Option Addr → Prop) (hN : Hp) : SSs (cxOf (L2.CX P w) P w K mg base ["first", "rest", "rows", "position", "row"] "joined" (defScope s_joined) f cdv A outer s H E) ⟨[], σ₀, h₀, xc, hN⟩ (fun cls d _ H => E cls d H) (defBody s_joined) (w_joined S_check_rows) :=
  (sss_cons (ss_set (i := 2) (show 2 ∉ ([] : List Nat) from by decide) sc_joined.nd rfl (by first | exact .inl rfl | exact .inr rfl) (se_lst (sa_cons (se_var (i := 0)) (sa_star (se_var (i := 1)) sa_nil))))
  (sss_cons (ss_expr (se_callO O_check_rows mS_check_rows tkF hr (by rfl) (sa_cons (se_frz (se_var (i := 2))) sa_nil)))
  (sss_one (ss_ret (se_callTy vl_tuple (by rfl) T.z_tuple (by with_unfolding_all rfl) (sa_cons (se_lcV (own := [("position", 3)]) rfl sc_joined.nd (show BlkOk ["first", "rest", "rows", "position", "row"] (defScope s_joined) _ [("position", 3)] from ⟨rfl, by decide +kernel, by decide +kernel, by decide +kernel, by decide +kernel⟩) (si_rng1 (by rfl) T.z_range (sa_cons (se_callB vl_len (by rfl) T.z_len (by with_unfolding_all rfl) (sa_cons (se_var (i := 0)) sa_nil)) sa_nil)) (show ∀ i ∈ ([3] : List Nat), i ∉ ([] : List Nat) from by decide) (show ∀ i ∈ ([3] : List Nat), i ∈ ([3] : List Nat) from by decide) (fun _ _ _ _ _ => (sg_name (i := 3) sc_joined.nd rfl (by first | exact .inl rfl | exact .inr rfl))) (fun _ _ _ _ _ => sts_nil) (fun _ _ _ _ _ => (se_callB (vl_maxL rfl) (by rfl) T.z_max (by with_unfolding_all rfl) (sa_cons (se_lcV (own := [("row", 4)]) rfl sc_joined.nd (show BlkOk ["first", "rest", "rows", "position", "row"] _ _ [("row", 4)] from ⟨rfl, by decide +kernel, by decide +kernel, free_of (by with_unfolding_all rfl), by decide +kernel⟩) (si_it (se_var (i := 2))) (show ∀ i ∈ ([4] : List Nat), i ∉ ([] : List Nat) from by decide) (show ∀ i ∈ ([4] : List Nat), i ∈ ([4] : List Nat) from by decide) (fun _ _ _ _ _ => (sg_name (i := 4) sc_joined.nd rfl (by first | exact .inl rfl | exact .inr rfl))) (fun _ _ _ _ _ => sts_nil) (fun _ _ _ _ _ => (se_ix vi_ix (se_var (i := 4)) (se_var (i := 3))))) sa_nil)))) sa_nil))))))
theorem der_shared {P : Program} {w : World} {K : PySem.W.Frag} {mg : Str → Option Value} {base : Heap} (T : Tp P w K mg base) {S_check_rows : FSpec} (mS_check_rows : MonoF S_check_rows) (O_check_rows : Ok P w K mg base "check_rows" ["rows"] 4 S_check_rows) {f : Addr} (cdv : Value) (A : Around) (outer : List Env) (s : Shared) (H : Hp) (E : XK) (hr : RoomG 4 (A.deeper (PyProof.Rows.envOfC "shared" (defScope s_shared) s.heap.objs.size f cdv)))
    (σ₀ : L2.St) (h₀ : Hp) (xc : Addr → Value → Option Addr → Prop) (hN : Hp) : SSs (cxOf (L2.CX P w) P w K mg base ["first", "rest", "rows", "position", "row"] "shared" (defScope s_shared) f cdv A outer s H E) ⟨[], σ₀, h₀, xc, hN⟩ (fun cls d _ H => E cls d H) (defBody s_shared) (w_shared S_check_rows) :=
  (sss_cons (ss_set (i := 2) (show 2 ∉ ([] : List Nat) from by decide) sc_shared.nd rfl (by first | exact .inl rfl | exact .inr rfl) (se_lst (sa_cons (se_var (i := 0)) (sa_star (se_var (i := 1)) sa_nil))))
  (sss_cons (ss_expr (se_callO O_check_rows mS_check_rows tkF hr (by rfl) (sa_cons (se_frz (se_var (i := 2))) sa_nil)))
  (sss_one (ss_ret (se_callTy vl_tuple (by rfl) T.z_tuple (by with_unfolding_all rfl) (sa_cons (se_lcV (own := [("position", 3)]) rfl sc_shared.nd (show BlkOk ["first", "rest", "rows", "position", "row"] (defScope s_shared) _ [("position", 3)] from ⟨rfl, by decide +kernel, by decide +kernel, by decide +kernel, by decide +kernel⟩) (si_rng1 (by rfl) T.z_range (sa_cons (se_callB vl_len (by rfl) T.z_len (by with_unfolding_all rfl) (sa_cons (se_var (i := 0)) sa_nil)) sa_nil)) (show ∀ i ∈ ([3] : List Nat), i ∉ ([] : List Nat) from by decide) (show ∀ i ∈ ([3] : List Nat), i ∈ ([3] : List Nat) from by decide) (fun _ _ _ _ _ => (sg_name (i := 3) sc_shared.nd rfl (by first | exact .inl rfl | exact .inr rfl))) (fun _ _ _ _ _ => sts_nil) (fun _ _ _ _ _ => (se_callB (vl_minL rfl) (by rfl) T.z_min (by with_unfolding_all rfl) (sa_cons (se_lcV (own := [("row", 4)]) rfl sc_shared.nd (show BlkOk ["first", "rest", "rows", "position", "row"] _ _ [("row", 4)] from ⟨rfl, by decide +kernel, by decide +kernel, free_of (by with_unfolding_all rfl), by decide +kernel⟩) (si_it (se_var (i := 2))) (show ∀ i ∈ ([4] : List Nat), i ∉ ([] : List Nat) from by decide) (show ∀ i ∈ ([4] : List Nat), i ∈ ([4] : List Nat) from by decide) (fun _ _ _ _ _ => (sg_name (i := 4) sc_shared.nd rfl (by first | exact .inl rfl | exact .inr rfl))) (fun _ _ _ _ _ => sts_nil) (fun _ _ _ _ _ => (se_ix vi_ix (se_var (i := 4)) (se_var (i := 3))))) sa_nil)))) sa_nil))))))
theorem der__law_orders {P : Program} {w : World} {K : PySem.W.Frag} {mg : Str → Option Value} {base : Heap} (T : Tp P w K mg base) {S_covers : FSpec} (mS_covers : MonoF S_covers) (O_covers : Ok P w K mg base "covers" ["big", "small"] 4 S_covers) {f : Addr} (cdv : Value) (A : Around) (outer : List Env) (s : Shared) (H : Hp) (E : XK) (hr : RoomG 4 (A.deeper (PyProof.Rows.envOfC "_law_orders" (defScope s__law_orders) s.heap.objs.size f cdv)))
    (σ₀ : L2.St) (h₀ : Hp) (xc : Addr → Value → Option Addr → Prop) (hN : Hp) : SSs (cxOf (L2.CX P w) P w K mg base ["_law_rows_here", "_law_big", "_law_small", "_law_due", "_law_k"] "_law_orders" (defScope s__law_orders) f cdv A outer s H E) ⟨[], σ₀, h₀, xc, hN⟩ (fun cls d _ H => E cls d H) (defBody s__law_orders) (w__law_orders S_covers) :=
  (sss_cons (ss_for poF rfl (si_it (se_var (i := 0))) (sg_name (i := 1) sc__law_orders.nd rfl (by first | exact .inl rfl | exact .inr rfl)) (show ∀ i ∈ ([1] : List Nat), i ∉ ([] : List Nat) from by decide)
  (sss_one (ss_for poF rfl (si_it (se_var (i := 0))) (sg_name (i := 2) sc__law_orders.nd rfl (by first | exact .inl rfl | exact .inr rfl)) (show ∀ i ∈ ([2] : List Nat), i ∉ ([] : List Nat) from by decide)
  (sss_cons (ss_set (i := 3) (show 3 ∉ ([] : List Nat) from by decide) sc__law_orders.nd rfl (by first | exact .inl rfl | exact .inr rfl) (se_callB (vl_all rfl) (by rfl) T.z_all (by with_unfolding_all rfl) (sa_cons (se_lcV (own := [("_law_k", 4)]) rfl sc__law_orders.nd (show BlkOk ["_law_rows_here", "_law_big", "_law_small", "_law_due", "_law_k"] (defScope s__law_orders) _ [("_law_k", 4)] from ⟨rfl, by decide +kernel, by decide +kernel, by decide +kernel, by decide +kernel⟩) (si_rng1 (by rfl) T.z_range (sa_cons (se_callB vl_len (by rfl) T.z_len (by with_unfolding_all rfl) (sa_cons (se_var (i := 1)) sa_nil)) sa_nil)) (show ∀ i ∈ ([4] : List Nat), i ∉ ([] : List Nat) from by decide) (show ∀ i ∈ ([4] : List Nat), i ∈ ([4] : List Nat) from by decide) (fun _ _ _ _ _ => (sg_name (i := 4) sc__law_orders.nd rfl (by first | exact .inl rfl | exact .inr rfl))) (fun _ _ _ _ _ => sts_nil) (fun _ _ _ _ _ => (se_cmp (vr_ge hr.u0) (se_ix vi_ix (se_var (i := 1)) (se_var (i := 4))) (se_ix vi_ix (se_var (i := 2)) (se_var (i := 4))) (by with_unfolding_all rfl)))) sa_nil)))
  (sss_cons (ss_if (SPW.st (spw_and (st_tru (se_var (i := 3))) (spw_and1 (st_cmp vr_isNotB (se_callO O_covers mS_covers tkF hr (by rfl) (sa_cons (se_frz (se_var (i := 1))) (sa_cons (se_frz (se_var (i := 2))) sa_nil))) se_bl (by with_unfolding_all rfl)))))
  (sss_one (ss_ret se_bl))
  sss_nil)
  (sss_one (ss_if (SPW.st (spw_and (st_not (st_tru (se_var (i := 3)))) (spw_and1 (st_cmp vr_isNotB (se_callO O_covers mS_covers tkF hr (by rfl) (sa_cons (se_frz (se_var (i := 1))) (sa_cons (se_frz (se_var (i := 2))) sa_nil))) se_bl (by with_unfolding_all rfl)))))
  (sss_one (ss_ret se_bl))
  sss_nil)))))))
  (sss_one (ss_ret se_bl)))
theorem der__law_told {P : Program} {w : World} {K : PySem.W.Frag} {mg : Str → Option Value} {base : Heap} (T : Tp P w K mg base) {S_shared S_joined : FSpec} (mS_shared : MonoF S_shared) (mS_joined : MonoF S_joined) (O_shared : OkV P w K mg base "shared" 1 5 S_shared) (O_joined : OkV P w K mg base "joined" 1 5 S_joined) {f : Addr} (cdv : Value) (A : Around) (outer : List Env) (s : Shared) (H : Hp) (E : XK) (hr : RoomG 5 (A.deeper (PyProof.Rows.envOfC "_law_told" (defScope s__law_told) s.heap.objs.size f cdv)))
    (σ₀ : L2.St) (h₀ : Hp) (xc : Addr → Value → Option Addr → Prop) (hN : Hp) : SSs (cxOf (L2.CX P w) P w K mg base ["_law_rows_here", "_law_count", "_law_least"] "_law_told" (defScope s__law_told) f cdv A outer s H E) ⟨[], σ₀, h₀, xc, hN⟩ (fun cls d _ H => E cls d H) (defBody s__law_told) (w__law_told S_shared S_joined) :=
  (sss_cons (ss_if (SPW.st (spw_and (st_tru (se_var (i := 2))) (spw_and1 (st_cmp (vr_eq hr.u64) (se_var (i := 1)) se_int (by with_unfolding_all rfl)))))
  (sss_one (ss_ret (se_callV O_shared mS_shared tkF hr (by rfl) (sa_cons (se_frz (se_ix vi_ix (se_var (i := 0)) se_int)) sa_nil))))
  sss_nil)
  (sss_cons (ss_if (SPW.st (spw_and (st_tru (se_var (i := 2))) (spw_and1 (st_cmp (vr_eq hr.u64) (se_var (i := 1)) se_int (by with_unfolding_all rfl)))))
  (sss_one (ss_ret (se_callV O_shared mS_shared tkF hr (by rfl) (sa_cons (se_frz (se_ix vi_ix (se_var (i := 0)) se_int)) (sa_cons (se_frz (se_ix vi_ix (se_var (i := 0)) se_int)) sa_nil)))))
  sss_nil)
  (sss_cons (ss_if (SPW.st (spw_and (st_tru (se_var (i := 2))) (spw_and1 (st_cmp (vr_eq hr.u64) (se_var (i := 1)) se_int (by with_unfolding_all rfl)))))
  (sss_one (ss_ret (se_callV O_shared mS_shared tkF hr (by rfl) (sa_cons (se_frz (se_ix vi_ix (se_var (i := 0)) se_int)) (sa_cons (se_frz (se_ix vi_ix (se_var (i := 0)) se_int)) (sa_cons (se_frz (se_ix vi_ix (se_var (i := 0)) se_int)) sa_nil))))))
  sss_nil)
  (sss_cons (ss_if (st_tru (se_var (i := 2)))
  (sss_one (ss_ret (se_callV O_shared mS_shared tkF hr (by rfl) (sa_cons (se_frz (se_ix vi_ix (se_var (i := 0)) se_int)) (sa_cons (se_frz (se_ix vi_ix (se_var (i := 0)) se_int)) (sa_cons (se_frz (se_ix vi_ix (se_var (i := 0)) se_int)) (sa_cons (se_frz (se_ix vi_ix (se_var (i := 0)) se_int)) sa_nil)))))))
  sss_nil)
  (sss_cons (ss_if (st_cmp (vr_eq hr.u64) (se_var (i := 1)) se_int (by with_unfolding_all rfl))
  (sss_one (ss_ret (se_callV O_joined mS_joined tkF hr (by rfl) (sa_cons (se_frz (se_ix vi_ix (se_var (i := 0)) se_int)) sa_nil))))
  sss_nil)
  (sss_cons (ss_if (st_cmp (vr_eq hr.u64) (se_var (i := 1)) se_int (by with_unfolding_all rfl))
  (sss_one (ss_ret (se_callV O_joined mS_joined tkF hr (by rfl) (sa_cons (se_frz (se_ix vi_ix (se_var (i := 0)) se_int)) (sa_cons (se_frz (se_ix vi_ix (se_var (i := 0)) se_int)) sa_nil)))))
  sss_nil)
  (sss_cons (ss_if (st_cmp (vr_eq hr.u64) (se_var (i := 1)) se_int (by with_unfolding_all rfl))
  (sss_one (ss_ret (se_callV O_joined mS_joined tkF hr (by rfl) (sa_cons (se_frz (se_ix vi_ix (se_var (i := 0)) se_int)) (sa_cons (se_frz (se_ix vi_ix (se_var (i := 0)) se_int)) (sa_cons (se_frz (se_ix vi_ix (se_var (i := 0)) se_int)) sa_nil))))))
  sss_nil)
  (sss_one (ss_ret (se_callV O_joined mS_joined tkF hr (by rfl) (sa_cons (se_frz (se_ix vi_ix (se_var (i := 0)) se_int)) (sa_cons (se_frz (se_ix vi_ix (se_var (i := 0)) se_int)) (sa_cons (se_frz (se_ix vi_ix (se_var (i := 0)) se_int)) (sa_cons (se_frz (se_ix vi_ix (se_var (i := 0)) se_int)) sa_nil))))))))))))))
theorem der__law_longer {P : Program} {w : World} {K : PySem.W.Frag} {mg : Str → Option Value} {base : Heap} (T : Tp P w K mg base) {S_joined S__law_is_row S_shared : FSpec} (mS_joined : MonoF S_joined) (mS__law_is_row : MonoF S__law_is_row) (mS_shared : MonoF S_shared) (O_joined : OkV P w K mg base "joined" 1 5 S_joined) (O__law_is_row : Ok P w K mg base "_law_is_row" ["_law_value", "_law_width"] 2 S__law_is_row) (O_shared : OkV P w K mg base "shared" 1 5 S_shared) {f : Addr} (cdv : Value) (A : Around) (outer : List Env) (s : Shared) (H : Hp) (E : XK) (hr : RoomG 5 (A.deeper (PyProof.Rows.envOfC "_law_longer" (defScope s__law_longer) s.heap.objs.size f cdv)))
    (σ₀ : L2.St) (h₀ : Hp) (xc : Addr → Value → Option Addr → Prop) (hN : Hp) : SSs (cxOf (L2.CX P w) P w K mg base ["_law_rows_here", "_law_more", "_law_entry_here", "_law_less", "_law_columns", "_law_k", "_law_row", "_law_told_here", "_law_column", "_law_e"] "_law_longer" (defScope s__law_longer) f cdv A outer s H E) ⟨[], σ₀, h₀, xc, hN⟩ (fun cls d _ H => E cls d H) (defBody s__law_longer) (w__law_longer S_joined S__law_is_row S_shared) :=
  (sss_cons (ss_set (i := 1) (show 1 ∉ ([] : List Nat) from by decide) sc__law_longer.nd rfl (by first | exact .inl rfl | exact .inr rfl) (se_callTy vl_tuple (by rfl) T.z_tuple (by with_unfolding_all rfl) (sa_cons (se_lcV (own := [("_law_entry_here", 2)]) rfl sc__law_longer.nd (show BlkOk ["_law_rows_here", "_law_more", "_law_entry_here", "_law_less", "_law_columns", "_law_k", "_law_row", "_law_told_here", "_law_column", "_law_e"] (defScope s__law_longer) _ [("_law_entry_here", 2)] from ⟨rfl, by decide +kernel, by decide +kernel, by decide +kernel, by decide +kernel⟩) (si_it (se_ix vi_ix (se_var (i := 0)) se_int)) (show ∀ i ∈ ([2] : List Nat), i ∉ ([] : List Nat) from by decide) (show ∀ i ∈ ([2] : List Nat), i ∈ ([2] : List Nat) from by decide) (fun _ _ _ _ _ => (sg_name (i := 2) sc__law_longer.nd rfl (by first | exact .inl rfl | exact .inr rfl))) (fun _ _ _ _ _ => sts_nil) (fun _ _ _ _ _ => (se_op vr_add (se_var (i := 2)) se_int))) sa_nil)))
  (sss_cons (ss_set (i := 3) (show 3 ∉ ([] : List Nat) from by decide) sc__law_longer.nd rfl (by first | exact .inl rfl | exact .inr rfl) (se_callTy vl_tuple (by rfl) T.z_tuple (by with_unfolding_all rfl) (sa_cons (se_lcV (own := [("_law_entry_here", 2)]) rfl sc__law_longer.nd (show BlkOk ["_law_rows_here", "_law_more", "_law_entry_here", "_law_less", "_law_columns", "_law_k", "_law_row", "_law_told_here", "_law_column", "_law_e"] (defScope s__law_longer) _ [("_law_entry_here", 2)] from ⟨rfl, by decide +kernel, by decide +kernel, by decide +kernel, by decide +kernel⟩) (si_it (se_ix vi_ix (se_var (i := 0)) se_int)) (show ∀ i ∈ ([2] : List Nat), i ∉ ([] : List Nat) from by decide) (show ∀ i ∈ ([2] : List Nat), i ∈ ([2] : List Nat) from by decide) (fun _ _ _ _ _ => (sg_name (i := 2) sc__law_longer.nd rfl (by first | exact .inl rfl | exact .inr rfl))) (fun _ _ _ _ _ => sts_nil) (fun _ _ _ _ _ => (se_callB (vl_max2 rfl) (by rfl) T.z_max (by with_unfolding_all rfl) (sa_cons (se_op vr_sub (se_var (i := 2)) se_int) (sa_cons se_int sa_nil))))) sa_nil)))
  (sss_cons (ss_setLcV (own := [("_law_k", 5)]) (i := 4) (show 4 ∉ ([] : List Nat) from by decide) rfl sc__law_longer.nd rfl rfl (show BlkOk ["_law_rows_here", "_law_more", "_law_entry_here", "_law_less", "_law_columns", "_law_k", "_law_row", "_law_told_here", "_law_column", "_law_e"] (defScope s__law_longer) _ [("_law_k", 5)] from ⟨rfl, by decide +kernel, by decide +kernel, by decide +kernel, by decide +kernel⟩) (si_rng1 (by rfl) T.z_range (sa_cons (se_callB vl_len (by rfl) T.z_len (by with_unfolding_all rfl) (sa_cons (se_var (i := 1)) sa_nil)) sa_nil)) (show ∀ i ∈ ([5] : List Nat), i ∉ ([] : List Nat) from by decide) (show ∀ i ∈ ([5] : List Nat), i ∈ ([5] : List Nat) from by decide) (fun _ _ _ _ _ => (sg_name (i := 5) sc__law_longer.nd rfl (by first | exact .inl rfl | exact .inr rfl))) (fun _ _ _ _ _ => sts_nil) (fun _ _ _ _ _ => (se_lcV (own := [("_law_row", 6)]) rfl sc__law_longer.nd (show BlkOk ["_law_rows_here", "_law_more", "_law_entry_here", "_law_less", "_law_columns", "_law_k", "_law_row", "_law_told_here", "_law_column", "_law_e"] _ _ [("_law_row", 6)] from ⟨rfl, by decide +kernel, by decide +kernel, free_of (by with_unfolding_all rfl), by decide +kernel⟩) (si_it (se_op vr_add (se_var (i := 0)) (se_lst (sa_cons (se_var (i := 1)) sa_nil)))) (show ∀ i ∈ ([6] : List Nat), i ∉ ([] : List Nat) from by decide) (show ∀ i ∈ ([6] : List Nat), i ∈ ([6] : List Nat) from by decide) (fun _ _ _ _ _ => (sg_name (i := 6) sc__law_longer.nd rfl (by first | exact .inl rfl | exact .inr rfl))) (fun _ _ _ _ _ => sts_nil) (fun _ _ _ _ _ => (se_ix vi_ix (se_var (i := 6)) (se_var (i := 5)))))))
  (sss_cons (ss_set (i := 7) (show 7 ∉ ([] : List Nat) from by decide) sc__law_longer.nd rfl (by first | exact .inl rfl | exact .inr rfl) (se_callV O_joined mS_joined tkF hr (by rfl) (sa_cons (se_frz (se_ix vi_ix (se_var (i := 0)) se_int)) (sa_cons (se_frz (se_ix vi_ix (se_var (i := 0)) se_int)) (sa_cons (se_frz (se_ix vi_ix (se_var (i := 0)) se_int)) (sa_cons (se_frz (se_ix vi_ix (se_var (i := 0)) se_int)) (sa_cons (se_frz (se_ix vi_ix (se_var (i := 0)) se_int)) (sa_cons (se_frz (se_var (i := 1))) sa_nil))))))))
  (sss_cons (ss_if (SPW.st (spw_or (st_not (st_tru (se_callO O__law_is_row mS__law_is_row tkF hr (by rfl) (sa_cons (se_frz (se_var (i := 7))) (sa_cons (se_frz (se_callB vl_len (by rfl) T.z_len (by with_unfolding_all rfl) (sa_cons (se_var (i := 1)) sa_nil))) sa_nil))))) (spw_or1 (st_cmp (vr_ne hr.u64) (se_var (i := 7)) (se_callTy vl_tuple (by rfl) T.z_tuple (by with_unfolding_all rfl) (sa_cons (se_lcV (own := [("_law_column", 8)]) rfl sc__law_longer.nd (show BlkOk ["_law_rows_here", "_law_more", "_law_entry_here", "_law_less", "_law_columns", "_law_k", "_law_row", "_law_told_here", "_law_column", "_law_e"] (defScope s__law_longer) _ [("_law_column", 8)] from ⟨rfl, by decide +kernel, by decide +kernel, by decide +kernel, by decide +kernel⟩) (si_it (se_var (i := 4))) (show ∀ i ∈ ([8] : List Nat), i ∉ ([] : List Nat) from by decide) (show ∀ i ∈ ([8] : List Nat), i ∈ ([8] : List Nat) from by decide) (fun _ _ _ _ _ => (sg_name (i := 8) sc__law_longer.nd rfl (by first | exact .inl rfl | exact .inr rfl))) (fun _ _ _ _ _ => sts_nil) (fun _ _ _ _ _ => (se_callB (vl_maxL rfl) (by rfl) T.z_max (by with_unfolding_all rfl) (sa_cons (se_var (i := 8)) sa_nil)))) sa_nil)) (by with_unfolding_all rfl)))))
  (sss_one (ss_ret se_bl))
  sss_nil)
  (sss_cons (ss_setLcV (own := [("_law_k", 5)]) (i := 4) (show 4 ∉ ([] : List Nat) from by decide) rfl sc__law_longer.nd rfl rfl (show BlkOk ["_law_rows_here", "_law_more", "_law_entry_here", "_law_less", "_law_columns", "_law_k", "_law_row", "_law_told_here", "_law_column", "_law_e"] (defScope s__law_longer) _ [("_law_k", 5)] from ⟨rfl, by decide +kernel, by decide +kernel, by decide +kernel, by decide +kernel⟩) (si_rng1 (by rfl) T.z_range (sa_cons (se_callB vl_len (by rfl) T.z_len (by with_unfolding_all rfl) (sa_cons (se_var (i := 3)) sa_nil)) sa_nil)) (show ∀ i ∈ ([5] : List Nat), i ∉ ([] : List Nat) from by decide) (show ∀ i ∈ ([5] : List Nat), i ∈ ([5] : List Nat) from by decide) (fun _ _ _ _ _ => (sg_name (i := 5) sc__law_longer.nd rfl (by first | exact .inl rfl | exact .inr rfl))) (fun _ _ _ _ _ => sts_nil) (fun _ _ _ _ _ => (se_lcV (own := [("_law_row", 6)]) rfl sc__law_longer.nd (show BlkOk ["_law_rows_here", "_law_more", "_law_entry_here", "_law_less", "_law_columns", "_law_k", "_law_row", "_law_told_here", "_law_column", "_law_e"] _ _ [("_law_row", 6)] from ⟨rfl, by decide +kernel, by decide +kernel, free_of (by with_unfolding_all rfl), by decide +kernel⟩) (si_it (se_op vr_add (se_var (i := 0)) (se_lst (sa_cons (se_var (i := 3)) sa_nil)))) (show ∀ i ∈ ([6] : List Nat), i ∉ ([] : List Nat) from by decide) (show ∀ i ∈ ([6] : List Nat), i ∈ ([6] : List Nat) from by decide) (fun _ _ _ _ _ => (sg_name (i := 6) sc__law_longer.nd rfl (by first | exact .inl rfl | exact .inr rfl))) (fun _ _ _ _ _ => sts_nil) (fun _ _ _ _ _ => (se_ix vi_ix (se_var (i := 6)) (se_var (i := 5)))))))
  (sss_cons (ss_set (i := 7) (show 7 ∉ ([] : List Nat) from by decide) sc__law_longer.nd rfl (by first | exact .inl rfl | exact .inr rfl) (se_callV O_shared mS_shared tkF hr (by rfl) (sa_cons (se_frz (se_ix vi_ix (se_var (i := 0)) se_int)) (sa_cons (se_frz (se_ix vi_ix (se_var (i := 0)) se_int)) (sa_cons (se_frz (se_ix vi_ix (se_var (i := 0)) se_int)) (sa_cons (se_frz (se_ix vi_ix (se_var (i := 0)) se_int)) (sa_cons (se_frz (se_ix vi_ix (se_var (i := 0)) se_int)) (sa_cons (se_frz (se_var (i := 3))) sa_nil))))))))
  (sss_cons (ss_if (SPW.st (spw_or (st_not (st_tru (se_callO O__law_is_row mS__law_is_row tkF hr (by rfl) (sa_cons (se_frz (se_var (i := 7))) (sa_cons (se_frz (se_callB vl_len (by rfl) T.z_len (by with_unfolding_all rfl) (sa_cons (se_var (i := 3)) sa_nil))) sa_nil))))) (spw_or1 (st_cmp (vr_ne hr.u64) (se_var (i := 7)) (se_callTy vl_tuple (by rfl) T.z_tuple (by with_unfolding_all rfl) (sa_cons (se_lcV (own := [("_law_column", 8)]) rfl sc__law_longer.nd (show BlkOk ["_law_rows_here", "_law_more", "_law_entry_here", "_law_less", "_law_columns", "_law_k", "_law_row", "_law_told_here", "_law_column", "_law_e"] (defScope s__law_longer) _ [("_law_column", 8)] from ⟨rfl, by decide +kernel, by decide +kernel, by decide +kernel, by decide +kernel⟩) (si_it (se_var (i := 4))) (show ∀ i ∈ ([8] : List Nat), i ∉ ([] : List Nat) from by decide) (show ∀ i ∈ ([8] : List Nat), i ∈ ([8] : List Nat) from by decide) (fun _ _ _ _ _ => (sg_name (i := 8) sc__law_longer.nd rfl (by first | exact .inl rfl | exact .inr rfl))) (fun _ _ _ _ _ => sts_nil) (fun _ _ _ _ _ => (se_callB (vl_minL rfl) (by rfl) T.z_min (by with_unfolding_all rfl) (sa_cons (se_var (i := 8)) sa_nil)))) sa_nil)) (by with_unfolding_all rfl)))))
  (sss_one (ss_ret se_bl))
  sss_nil)
  (sss_cons (ss_tryV (l := [("InvalidRow", true)]) (i := 9) T.x_InvalidRow rfl rfl sc__law_longer.nd rfl rfl (by rfl) tkF poF (show 9 ∉ ([] : List Nat) from by decide) (by intro p hp; simp only [List.mem_cons, List.not_mem_nil, or_false] at hp; rcases hp with rfl <;> first | exact T.e_InvalidRow_InvalidRow) (fun _ _ _ tk' po' => (sss_one (ss_expr (se_callV O_joined mS_joined tk' hr (by rfl) (sa_cons (se_frz (se_ix vi_ix (se_var (i := 0)) se_int)) (sa_cons (se_frz (se_ix vi_ix (se_var (i := 0)) se_int)) (sa_cons (se_frz (se_ix vi_ix (se_var (i := 0)) se_int)) (sa_cons (se_frz (se_ix vi_ix (se_var (i := 0)) se_int)) (sa_cons (se_frz (se_ix vi_ix (se_var (i := 0)) se_int)) (sa_cons se_non sa_nil))))))))))
  (fun _ _ _ _ _ hz hf => (sss_one (ss_ret (se_cmp vr_isN (se_exV (x := "InvalidRow") (i := 9) T.x_InvalidRow rfl hz hf rfl (.inl rfl)) se_non (by with_unfolding_all rfl))))))
  (sss_one (ss_ret se_bl)))))))))))
theorem der__law_called {P : Program} {w : World} {K : PySem.W.Frag} {mg : Str → Option Value} {base : Heap} (T : Tp P w K mg base) {S_check_row S_covers S_joined S_shared S_size : FSpec} (mS_check_row : MonoF S_check_row) (mS_covers : MonoF S_covers) (mS_joined : MonoF S_joined) (mS_shared : MonoF S_shared) (mS_size : MonoF S_size) (O_check_row : Ok P w K mg base "check_row" ["row", "width"] 3 S_check_row) (O_covers : Ok P w K mg base "covers" ["big", "small"] 4 S_covers) (O_joined : OkV P w K mg base "joined" 1 5 S_joined) (O_shared : OkV P w K mg base "shared" 1 5 S_shared) (O_size : Ok P w K mg base "size" ["row"] 4 S_size) {f : Addr} (cdv : Value) (A : Around) (outer : List Env) (s : Shared) (H : Hp) (E : XK) (hr : RoomG 5 (A.deeper (PyProof.Rows.envOfC "_law_called" (defScope s__law_called) s.heap.objs.size f cdv)))
    (σ₀ : L2.St) (h₀ : Hp) (xc : Addr → Value → Option Addr → Prop) (hN : Hp) : SSs (cxOf (L2.CX P w) P w K mg base ["_law_number", "_law_rows_here", "_law_odd_here", "_law_row", "_law_e"] "_law_called" (defScope s__law_called) f cdv A outer s H E) ⟨[], σ₀, h₀, xc, hN⟩ (fun cls d _ H => E cls d H) (defBody s__law_called) (w__law_called S_check_row S_covers S_joined S_shared S_size) :=
  (sss_cons (ss_set (i := 3) (show 3 ∉ ([] : List Nat) from by decide) sc__law_called.nd rfl (by first | exact .inl rfl | exact .inr rfl) (se_ix vi_ix (se_var (i := 1)) se_int))
  (sss_cons (ss_tryV (l := [("InvalidRow", true)]) (i := 4) T.x_InvalidRow rfl rfl sc__law_called.nd rfl rfl (by rfl) tkF poF (show 4 ∉ ([] : List Nat) from by decide) (by intro p hp; simp only [List.mem_cons, List.not_mem_nil, or_false] at hp; rcases hp with rfl <;> first | exact T.e_InvalidRow_InvalidRow) (fun _ _ _ tk' po' => (sss_one (ss_if (st_cmp (vr_eq hr.u64) (se_var (i := 0)) se_int (by with_unfolding_all rfl))
  (sss_one (ss_expr (se_callO O_check_row mS_check_row tk' hr (by rfl) (sa_cons (se_frz (se_var (i := 2))) (sa_cons (se_frz (se_callB vl_len (by rfl) T.z_len (by with_unfolding_all rfl) (sa_cons (se_var (i := 3)) sa_nil))) sa_nil)))))
  (sss_one (ss_if (st_cmp (vr_eq hr.u64) (se_var (i := 0)) se_int (by with_unfolding_all rfl))
  (sss_one (ss_expr (se_callO O_covers mS_covers tk' hr (by rfl) (sa_cons (se_frz (se_var (i := 3))) (sa_cons (se_frz (se_var (i := 2))) sa_nil)))))
  (sss_one (ss_if (st_cmp (vr_eq hr.u64) (se_var (i := 0)) se_int (by with_unfolding_all rfl))
  (sss_one (ss_expr (se_callV O_joined mS_joined tk' hr (by rfl) (sa_cons (se_frz (se_var (i := 3))) (sa_cons (se_frz (se_var (i := 2))) sa_nil)))))
  (sss_one (ss_if (st_cmp (vr_eq hr.u64) (se_var (i := 0)) se_int (by with_unfolding_all rfl))
  (sss_one (ss_expr (se_callV O_shared mS_shared tk' hr (by rfl) (sa_cons (se_frz (se_var (i := 3))) (sa_cons (se_frz (se_var (i := 2))) sa_nil)))))
  (sss_one (ss_if (st_cmp (vr_eq hr.u64) (se_var (i := 0)) se_int (by with_unfolding_all rfl))
  (sss_one (ss_expr (se_callV O_joined mS_joined tk' hr (by rfl) (sa_cons (se_frz (se_var (i := 3))) (sa_cons (se_frz (se_ix vi_ix (se_var (i := 1)) se_int)) (sa_cons (se_frz (se_var (i := 2))) (sa_cons (se_frz (se_ix vi_ix (se_var (i := 1)) se_int)) sa_nil)))))))
  (sss_one (ss_if (st_cmp (vr_eq hr.u64) (se_var (i := 0)) se_int (by with_unfolding_all rfl))
  (sss_one (ss_expr (se_callV O_shared mS_shared tk' hr (by rfl) (sa_cons (se_frz (se_var (i := 3))) (sa_cons (se_frz (se_ix vi_ix (se_var (i := 1)) se_int)) (sa_cons (se_frz (se_var (i := 2))) (sa_cons se_non sa_nil)))))))
  (sss_one (ss_if (st_cmp (vr_eq hr.u64) (se_var (i := 0)) se_int (by with_unfolding_all rfl))
  (sss_one (ss_expr (se_callO O_covers mS_covers tk' hr (by rfl) (sa_cons (se_frz (se_var (i := 2))) (sa_cons (se_frz (se_var (i := 3))) sa_nil)))))
  (sss_one (ss_if (st_cmp (vr_eq hr.u64) (se_var (i := 0)) se_int (by with_unfolding_all rfl))
  (sss_one (ss_expr (se_callO O_covers mS_covers tk' hr (by rfl) (sa_cons (se_frz (se_var (i := 2))) (sa_cons se_non sa_nil)))))
  (sss_one (ss_if (st_cmp (vr_eq hr.u64) (se_var (i := 0)) se_int (by with_unfolding_all rfl))
  (sss_one (ss_expr (se_callV O_joined mS_joined tk' hr (by rfl) (sa_cons (se_frz (se_var (i := 2))) (sa_cons (se_frz (se_var (i := 3))) sa_nil)))))
  (sss_one (ss_if (st_cmp (vr_eq hr.u64) (se_var (i := 0)) se_int (by with_unfolding_all rfl))
  (sss_one (ss_expr (se_callV O_shared mS_shared tk' hr (by rfl) (sa_cons (se_frz (se_var (i := 2))) (sa_cons (se_frz (se_var (i := 3))) (sa_cons (se_frz (se_ix vi_ix (se_var (i := 1)) se_int)) sa_nil))))))
  (sss_one (ss_if (st_cmp (vr_eq hr.u64) (se_var (i := 0)) se_int (by with_unfolding_all rfl))
  (sss_one (ss_expr (se_callV O_joined mS_joined tk' hr (by rfl) (sa_cons (se_frz (se_var (i := 2))) sa_nil))))
  (sss_one (ss_if (st_cmp (vr_eq hr.u64) (se_var (i := 0)) se_int (by with_unfolding_all rfl))
  (sss_one (ss_expr (se_callV O_shared mS_shared tk' hr (by rfl) (sa_cons (se_frz (se_var (i := 2))) sa_nil))))
  (sss_one (ss_expr (se_callO O_size mS_size tk' hr (by rfl) (sa_cons (se_frz (se_var (i := 2))) sa_nil)))))))))))))))))))))))))))))
  (fun _ _ _ _ _ hz hf => (sss_one (ss_ret (se_lst (sa_cons se_str (sa_cons (se_callB (vl_repr hr.u66 hr.gd) (by rfl) T.z_repr (by with_unfolding_all rfl) (sa_cons (se_exV (x := "InvalidRow") (i := 4) T.x_InvalidRow rfl hz hf rfl (.inl rfl)) sa_nil)) sa_nil)))))))
  (sss_one (ss_ret (se_lst (sa_cons se_str (sa_cons se_str sa_nil)))))))
theorem der__law_joins {P : Program} {w : World} {K : PySem.W.Frag} {mg : Str → Option Value} {base : Heap} (T : Tp P w K mg base) {S__law_told S__law_is_row S_check_row S_size S__law_is_integer : FSpec} (mS__law_told : MonoF S__law_told) (mS__law_is_row : MonoF S__law_is_row) (mS_check_row : MonoF S_check_row) (mS_size : MonoF S_size) (mS__law_is_integer : MonoF S__law_is_integer) (O__law_told : Ok P w K mg base "_law_told" ["_law_rows_here", "_law_count", "_law_least"] 6 S__law_told) (O__law_is_row : Ok P w K mg base "_law_is_row" ["_law_value", "_law_width"] 2 S__law_is_row) (O_check_row : Ok P w K mg base "check_row" ["row", "width"] 3 S_check_row) (O_size : Ok P w K mg base "size" ["row"] 4 S_size) (O__law_is_integer : Ok P w K mg base "_law_is_integer" ["_law_value"] 1 S__law_is_integer) {f : Addr} (cdv : Value) (A : Around) (outer : List Env) (s : Shared) (H : Hp) (E : XK) (hr : RoomG 6 (A.deeper (PyProof.Rows.envOfC "_law_joins" (defScope s__law_joins) s.heap.objs.size f cdv)))
    (σ₀ : L2.St) (h₀ : Hp) (xc : Addr → Value → Option Addr → Prop) (hN : Hp) : SSs (cxOf (L2.CX P w) P w K mg base ["_law_rows_here", "_law_width", "_law_count", "_law_columns", "_law_told_here", "_law_k", "_law_row", "_law_column"] "_law_joins" (defScope s__law_joins) f cdv A outer s H E) ⟨[], σ₀, h₀, xc, hN⟩ (fun cls d _ H => E cls d H) (defBody s__law_joins) (w__law_joins S__law_told S__law_is_row S_check_row S_size S__law_is_integer) :=
  (sss_cons (ss_set (i := 1) (show 1 ∉ ([] : List Nat) from by decide) sc__law_joins.nd rfl (by first | exact .inl rfl | exact .inr rfl) (se_callB vl_len (by rfl) T.z_len (by with_unfolding_all rfl) (sa_cons (se_ix vi_ix (se_var (i := 0)) se_int) sa_nil)))
  (sss_cons (ss_for poF rfl (si_rng2 (by rfl) T.z_range (sa_cons se_int (sa_cons se_int sa_nil))) (sg_name (i := 2) sc__law_joins.nd rfl (by first | exact .inl rfl | exact .inr rfl)) (show ∀ i ∈ ([2] : List Nat), i ∉ ([] : List Nat) from by decide)
  (sss_cons (ss_setLcV (own := [("_law_k", 5)]) (i := 3) (show 3 ∉ ([] : List Nat) from by decide) rfl sc__law_joins.nd rfl rfl (show BlkOk ["_law_rows_here", "_law_width", "_law_count", "_law_columns", "_law_told_here", "_law_k", "_law_row", "_law_column"] (defScope s__law_joins) _ [("_law_k", 5)] from ⟨rfl, by decide +kernel, by decide +kernel, by decide +kernel, by decide +kernel⟩) (si_rng1 (by rfl) T.z_range (sa_cons (se_var (i := 1)) sa_nil)) (show ∀ i ∈ ([5] : List Nat), i ∉ ([] : List Nat) from by decide) (show ∀ i ∈ ([5] : List Nat), i ∈ ([5] : List Nat) from by decide) (fun _ _ _ _ _ => (sg_name (i := 5) sc__law_joins.nd rfl (by first | exact .inl rfl | exact .inr rfl))) (fun _ _ _ _ _ => sts_nil) (fun _ _ _ _ _ => (se_lcV (own := [("_law_row", 6)]) rfl sc__law_joins.nd (show BlkOk ["_law_rows_here", "_law_width", "_law_count", "_law_columns", "_law_told_here", "_law_k", "_law_row", "_law_column"] _ _ [("_law_row", 6)] from ⟨rfl, by decide +kernel, by decide +kernel, free_of (by with_unfolding_all rfl), by decide +kernel⟩) (si_it (se_sl (se_var (i := 0)) so_none (so_some (se_var (i := 2))))) (show ∀ i ∈ ([6] : List Nat), i ∉ ([] : List Nat) from by decide) (show ∀ i ∈ ([6] : List Nat), i ∈ ([6] : List Nat) from by decide) (fun _ _ _ _ _ => (sg_name (i := 6) sc__law_joins.nd rfl (by first | exact .inl rfl | exact .inr rfl))) (fun _ _ _ _ _ => sts_nil) (fun _ _ _ _ _ => (se_ix vi_ix (se_var (i := 6)) (se_var (i := 5)))))))
  (sss_cons (ss_set (i := 4) (show 4 ∉ ([] : List Nat) from by decide) sc__law_joins.nd rfl (by first | exact .inl rfl | exact .inr rfl) (se_callO O__law_told mS__law_told tkF hr (by rfl) (sa_cons (se_frz (se_var (i := 0))) (sa_cons (se_frz (se_var (i := 2))) (sa_cons se_bl sa_nil)))))
  (sss_cons (ss_if (SPW.st (spw_or (st_not (st_tru (se_callO O__law_is_row mS__law_is_row tkF hr (by rfl) (sa_cons (se_frz (se_var (i := 4))) (sa_cons (se_frz (se_var (i := 1))) sa_nil))))) (spw_or1 (st_cmp (vr_ne hr.u64) (se_var (i := 4)) (se_callTy vl_tuple (by rfl) T.z_tuple (by with_unfolding_all rfl) (sa_cons (se_lcV (own := [("_law_column", 7)]) rfl sc__law_joins.nd (show BlkOk ["_law_rows_here", "_law_width", "_law_count", "_law_columns", "_law_told_here", "_law_k", "_law_row", "_law_column"] (defScope s__law_joins) _ [("_law_column", 7)] from ⟨rfl, by decide +kernel, by decide +kernel, by decide +kernel, by decide +kernel⟩) (si_it (se_var (i := 3))) (show ∀ i ∈ ([7] : List Nat), i ∉ ([] : List Nat) from by decide) (show ∀ i ∈ ([7] : List Nat), i ∈ ([7] : List Nat) from by decide) (fun _ _ _ _ _ => (sg_name (i := 7) sc__law_joins.nd rfl (by first | exact .inl rfl | exact .inr rfl))) (fun _ _ _ _ _ => sts_nil) (fun _ _ _ _ _ => (se_callB (vl_maxL rfl) (by rfl) T.z_max (by with_unfolding_all rfl) (sa_cons (se_var (i := 7)) sa_nil)))) sa_nil)) (by with_unfolding_all rfl)))))
  (sss_one (ss_ret se_bl))
  sss_nil)
  (sss_cons (ss_set (i := 4) (show 4 ∉ ([] : List Nat) from by decide) sc__law_joins.nd rfl (by first | exact .inl rfl | exact .inr rfl) (se_callO O__law_told mS__law_told tkF hr (by rfl) (sa_cons (se_frz (se_var (i := 0))) (sa_cons (se_frz (se_var (i := 2))) (sa_cons se_bl sa_nil)))))
  (sss_one (ss_if (SPW.st (spw_or (st_not (st_tru (se_callO O__law_is_row mS__law_is_row tkF hr (by rfl) (sa_cons (se_frz (se_var (i := 4))) (sa_cons (se_frz (se_var (i := 1))) sa_nil))))) (spw_or1 (st_cmp (vr_ne hr.u64) (se_var (i := 4)) (se_callTy vl_tuple (by rfl) T.z_tuple (by with_unfolding_all rfl) (sa_cons (se_lcV (own := [("_law_column", 7)]) rfl sc__law_joins.nd (show BlkOk ["_law_rows_here", "_law_width", "_law_count", "_law_columns", "_law_told_here", "_law_k", "_law_row", "_law_column"] (defScope s__law_joins) _ [("_law_column", 7)] from ⟨rfl, by decide +kernel, by decide +kernel, by decide +kernel, by decide +kernel⟩) (si_it (se_var (i := 3))) (show ∀ i ∈ ([7] : List Nat), i ∉ ([] : List Nat) from by decide) (show ∀ i ∈ ([7] : List Nat), i ∈ ([7] : List Nat) from by decide) (fun _ _ _ _ _ => (sg_name (i := 7) sc__law_joins.nd rfl (by first | exact .inl rfl | exact .inr rfl))) (fun _ _ _ _ _ => sts_nil) (fun _ _ _ _ _ => (se_callB (vl_minL rfl) (by rfl) T.z_min (by with_unfolding_all rfl) (sa_cons (se_var (i := 7)) sa_nil)))) sa_nil)) (by with_unfolding_all rfl)))))
  (sss_one (ss_ret se_bl))
  sss_nil)))))))
  (sss_cons (ss_for poF rfl (si_it (se_var (i := 0))) (sg_name (i := 6) sc__law_joins.nd rfl (by first | exact .inl rfl | exact .inr rfl)) (show ∀ i ∈ ([6] : List Nat), i ∉ ([] : List Nat) from by decide)
  (sss_one (ss_if (SPW.st (spw_or (st_not (st_tru (se_callO O__law_is_integer mS__law_is_integer tkF hr (by rfl) (sa_cons (se_frz (se_callO O_size mS_size tkF hr (by rfl) (sa_cons (se_frz (se_var (i := 6))) sa_nil))) sa_nil)))) (spw_or (st_cmp (vr_ne hr.u64) (se_callO O_size mS_size tkF hr (by rfl) (sa_cons (se_frz (se_var (i := 6))) sa_nil)) (se_callB (vl_sumT rfl) (by rfl) T.z_sum (by with_unfolding_all rfl) (sa_cons (se_var (i := 6)) sa_nil)) (by with_unfolding_all rfl)) (spw_or1 (st_cmp vr_isNotN (se_callO O_check_row mS_check_row tkF hr (by rfl) (sa_cons (se_frz (se_var (i := 6))) (sa_cons (se_frz (se_var (i := 1))) sa_nil))) se_non (by with_unfolding_all rfl))))))
  (sss_one (ss_ret se_bl))
  sss_nil)))
  (sss_one (ss_ret se_bl)))))
theorem der__law_refusals {P : Program} {w : World} {K : PySem.W.Frag} {mg : Str → Option Value} {base : Heap} (T : Tp P w K mg base) {S__law_take S__law_odd S__law_dues S__law_called : FSpec} (mS__law_take : MonoF S__law_take) (mS__law_odd : MonoF S__law_odd) (mS__law_dues : MonoF S__law_dues) (mS__law_called : MonoF S__law_called) (O__law_take : Ok P w K mg base "_law_take" ["_law_bag_here", "_law_many"] 1 S__law_take) (O__law_odd : Ok P w K mg base "_law_odd" ["_law_row", "_law_place", "_law_way"] 1 S__law_odd) (O__law_dues : Ok P w K mg base "_law_dues" ["_law_row", "_law_odd_here", "_law_lone"] 1 S__law_dues) (O__law_called : Ok P w K mg base "_law_called" ["_law_number", "_law_rows_here", "_law_odd_here"] 6 S__law_called) {f : Addr} (cdv : Value) (A : Around) (outer : List Env) (s : Shared) (H : Hp) (E : XK) (hr : RoomG 6 (A.deeper (PyProof.Rows.envOfC "_law_refusals" (defScope s__law_refusals) s.heap.objs.size f cdv)))
    (σ₀ : L2.St) (h₀ : Hp) (xc : Addr → Value → Option Addr → Prop) (hN : Hp) : SSs (cxOf (L2.CX P w) P w K mg base ["_law_bag_here", "_law_rows_here", "_law_row", "_law_place", "_law_way", "_law_odd_here", "_law_lone", "_law_dues_here", "_law_number"] "_law_refusals" (defScope s__law_refusals) f cdv A outer s H E) ⟨[0], σ₀, h₀, xc, hN⟩ (fun cls d _ H => E cls d H) (defBody s__law_refusals) (w__law_refusals S__law_take S__law_odd S__law_dues S__law_called) :=
  (sss_cons (ss_set (i := 2) (show 2 ∉ ([0] : List Nat) from by decide) sc__law_refusals.nd rfl (by first | exact .inl rfl | exact .inr rfl) (se_ix vi_ix (se_var (i := 1)) se_int))
  (sss_cons (ss_set (i := 3) (show 3 ∉ ([0] : List Nat) from by decide) sc__law_refusals.nd rfl (by first | exact .inl rfl | exact .inr rfl) (se_callO O__law_take mS__law_take tkF hr (by rfl) (sa_cons (se_var (i := 0)) (sa_cons (se_frz (se_callB vl_len (by rfl) T.z_len (by with_unfolding_all rfl) (sa_cons (se_var (i := 2)) sa_nil))) sa_nil))))
  (sss_cons (ss_for poF rfl (si_rng1 (by rfl) T.z_range (sa_cons se_int sa_nil)) (sg_name (i := 4) sc__law_refusals.nd rfl (by first | exact .inl rfl | exact .inr rfl)) (show ∀ i ∈ ([4] : List Nat), i ∉ ([0] : List Nat) from by decide)
  (sss_cons (ss_set (i := 5) (show 5 ∉ ([0] : List Nat) from by decide) sc__law_refusals.nd rfl (by first | exact .inl rfl | exact .inr rfl) (se_callO O__law_odd mS__law_odd tkF hr (by rfl) (sa_cons (se_frz (se_var (i := 2))) (sa_cons (se_frz (se_var (i := 3))) (sa_cons (se_frz (se_var (i := 4))) sa_nil)))))
  (sss_cons (ss_set (i := 6) (show 6 ∉ ([0] : List Nat) from by decide) sc__law_refusals.nd rfl (by first | exact .inl rfl | exact .inr rfl) (se_or (se_cmp (vr_notIn hr.u65) (se_var (i := 4)) (se_tup (sa_cons se_int (sa_cons se_int sa_nil))) (by with_unfolding_all rfl)) (se_or (se_and (se_cmp (vr_eq hr.u64) (se_var (i := 4)) se_int (by with_unfolding_all rfl)) (se_one (se_cmp (vr_eq hr.u64) (se_callB vl_len (by rfl) T.z_len (by with_unfolding_all rfl) (sa_cons (se_var (i := 2)) sa_nil)) se_int (by with_unfolding_all rfl)))) (se_one (se_and (se_cmp (vr_eq hr.u64) (se_var (i := 4)) se_int (by with_unfolding_all rfl)) (se_one (se_cmp (vr_eq hr.u64) (se_callB vl_len (by rfl) T.z_len (by with_unfolding_all rfl) (sa_cons (se_var (i := 2)) sa_nil)) se_int (by with_unfolding_all rfl))))))))
  (sss_cons (ss_set (i := 7) (show 7 ∉ ([0] : List Nat) from by decide) sc__law_refusals.nd rfl (by first | exact .inl rfl | exact .inr rfl) (se_callO O__law_dues mS__law_dues tkF hr (by rfl) (sa_cons (se_frz (se_var (i := 2))) (sa_cons (se_frz (se_var (i := 5))) (sa_cons (se_frz (se_var (i := 6))) sa_nil)))))
  (sss_one (ss_for poF rfl (si_rng1 (by rfl) T.z_range (sa_cons se_int sa_nil)) (sg_name (i := 8) sc__law_refusals.nd rfl (by first | exact .inl rfl | exact .inr rfl)) (show ∀ i ∈ ([8] : List Nat), i ∉ ([0] : List Nat) from by decide)
  (sss_one (ss_if (st_cmp (vr_ne hr.u64) (se_callO O__law_called mS__law_called tkF hr (by rfl) (sa_cons (se_frz (se_var (i := 8))) (sa_cons (se_frz (se_var (i := 1))) (sa_cons (se_frz (se_var (i := 5))) sa_nil)))) (se_ix vi_ix (se_var (i := 7)) (se_var (i := 8))) (by with_unfolding_all rfl))
  (sss_one (ss_ret se_bl))
  sss_nil))))))))
  (sss_one (ss_ret se_bl)))))
theorem der_law {P : Program} {w : World} {K : PySem.W.Frag} {mg : Str → Option Value} {base : Heap} (T : Tp P w K mg base) {S__law_bag S__law_take S__law_rows S__law_refusals S__law_longer S__law_joins S__law_orders S__law_entry S__law_caught S__law_word S__law_others S__law_valued : FSpec} (mS__law_bag : MonoF S__law_bag) (mS__law_take : MonoF S__law_take) (mS__law_rows : MonoF S__law_rows) (mS__law_refusals : MonoF S__law_refusals) (mS__law_longer : MonoF S__law_longer) (mS__law_joins : MonoF S__law_joins) (mS__law_orders : MonoF S__law_orders) (mS__law_entry : MonoF S__law_entry) (mS__law_caught : MonoF S__law_caught) (mS__law_word : MonoF S__law_word) (mS__law_others : MonoF S__law_others) (mS__law_valued : MonoF S__law_valued) (O__law_bag : Ok P w K mg base "_law_bag" ["_law_script"] 1 S__law_bag) (O__law_take : Ok P w K mg base "_law_take" ["_law_bag_here", "_law_many"] 1 S__law_take) (O__law_rows : Ok P w K mg base "_law_rows" ["_law_bag_here", "_law_width"] 4 S__law_rows) (O__law_refusals : Ok P w K mg base "_law_refusals" ["_law_bag_here", "_law_rows_here"] 7 S__law_refusals) (O__law_longer : Ok P w K mg base "_law_longer" ["_law_rows_here"] 6 S__law_longer) (O__law_joins : Ok P w K mg base "_law_joins" ["_law_rows_here"] 7 S__law_joins) (O__law_orders : Ok P w K mg base "_law_orders" ["_law_rows_here"] 5 S__law_orders) (O__law_entry : Ok P w K mg base "_law_entry" ["_law_bag_here"] 2 S__law_entry) (O__law_caught : Ok P w K mg base "_law_caught" ["_law_odd_here"] 4 S__law_caught) (O__law_word : Ok P w K mg base "_law_word" ["_law_bag_here"] 2 S__law_word) (O__law_others : Ok P w K mg base "_law_others" ["_law_number", "_law_word_here"] 3 S__law_others) (O__law_valued : Ok P w K mg base "_law_valued" ["_law_thing"] 3 S__law_valued) {f : Addr} (cdv : Value) (A : Around) (outer : List Env) (s : Shared) (H : Hp) (E : XK) (hr : RoomG 7 (A.deeper (PyProof.Rows.envOfC "law" (defScope s_law) s.heap.objs.size f cdv)))
    (σ₀ : L2.St) (h₀ : Hp) (xc : Addr → Value → Option Addr → Prop) (hN : Hp) : SSs (cxOf (L2.CX P w) P w K mg base ["_law_script", "_law_bag_here", "_law_width", "_law_rows_here", "_law_number"] "law" (defScope s_law) f cdv A outer s H E) ⟨[], σ₀, h₀, xc, hN⟩ (fun cls d _ H => E cls d H) (defBody s_law) (w_law S__law_bag S__law_take S__law_rows S__law_refusals S__law_longer S__law_joins S__law_orders S__law_entry S__law_caught S__law_word S__law_others S__law_valued) :=
  (sss_cons (ss_set (i := 1) (show 1 ∉ ([] : List Nat) from by decide) sc_law.nd rfl (by first | exact .inl rfl | exact .inr rfl) (se_callO O__law_bag mS__law_bag tkF hr (by rfl) (sa_cons (se_frz (se_var (i := 0))) sa_nil)))
  (sss_cons (ss_set (i := 2) (show 2 ∉ ([] : List Nat) from by decide) sc_law.nd rfl (by first | exact .inl rfl | exact .inr rfl) (se_op vr_add se_int (se_callO O__law_take mS__law_take tkF hr (by rfl) (sa_cons (se_var (i := 1)) (sa_cons se_int sa_nil)))))
  (sss_cons (ss_set (i := 3) (show 3 ∉ ([] : List Nat) from by decide) sc_law.nd rfl (by first | exact .inl rfl | exact .inr rfl) (se_callO O__law_rows mS__law_rows tkF hr (by rfl) (sa_cons (se_var (i := 1)) (sa_cons (se_frz (se_var (i := 2))) sa_nil))))
  (sss_cons (ss_if (SPW.st (spw_or (st_not (st_tru (se_callO O__law_orders mS__law_orders tkF hr (by rfl) (sa_cons (se_frz (se_var (i := 3))) sa_nil)))) (spw_or (st_not (st_tru (se_callO O__law_joins mS__law_joins tkF hr (by rfl) (sa_cons (se_frz (se_var (i := 3))) sa_nil)))) (spw_or (st_not (st_tru (se_callO O__law_longer mS__law_longer tkF hr (by rfl) (sa_cons (se_frz (se_var (i := 3))) sa_nil)))) (spw_or1 (st_not (st_tru (se_callO O__law_refusals mS__law_refusals tkF hr (by rfl) (sa_cons (se_var (i := 1)) (sa_cons (se_frz (se_var (i := 3))) sa_nil))))))))))
  (sss_one (ss_ret se_bl))
  sss_nil)
  (sss_cons (ss_set (i := 4) (show 4 ∉ ([] : List Nat) from by decide) sc_law.nd rfl (by first | exact .inl rfl | exact .inr rfl) (se_callO O__law_entry mS__law_entry tkF hr (by rfl) (sa_cons (se_var (i := 1)) sa_nil)))
  (sss_cons (ss_if (SPW.st (spw_or (st_not (st_tru (se_callO O__law_caught mS__law_caught tkF hr (by rfl) (sa_cons (se_frz (se_lst (sa_cons (se_var (i := 4)) sa_nil))) sa_nil)))) (spw_or (st_not (st_tru (se_callO O__law_caught mS__law_caught tkF hr (by rfl) (sa_cons (se_frz (se_tup (sa_cons (se_op vr_sub (se_neg se_int) (se_var (i := 4))) sa_nil))) sa_nil)))) (spw_or1 (st_tru (se_callO O__law_caught mS__law_caught tkF hr (by rfl) (sa_cons (se_frz (se_tup (sa_cons (se_var (i := 4)) sa_nil))) sa_nil)))))))
  (sss_one (ss_ret se_bl))
  sss_nil)
  (sss_one (ss_ret (se_and (se_callO O__law_valued mS__law_valued tkF hr (by rfl) (sa_cons (se_frz (se_var (i := 4))) sa_nil)) (se_and (se_callO O__law_valued mS__law_valued tkF hr (by rfl) (sa_cons (se_frz (se_tup (sa_cons (se_var (i := 4)) (sa_cons se_non sa_nil)))) sa_nil)) (se_one (se_callO O__law_others mS__law_others tkF hr (by rfl) (sa_cons (se_frz (se_var (i := 4))) (sa_cons (se_frz (se_callO O__law_word mS__law_word tkF hr (by rfl) (sa_cons (se_var (i := 1)) sa_nil))) sa_nil))))))))))))))
end LV
namespace LV
open PySem PySem.Spec L2
theorem ok_is_integer {P : Program} {w : World} {K : PySem.W.Frag} {mg : Str → Option Value} {base : Heap} (T : Tp P w K mg base) : Ok P w K mg base "is_integer" ["value"] 1 S_is_integer :=
  let ⟨_, _, D⟩ := T.d_is_integer
  ok_mk [] D sc_is_integer kp_is_integer (der_is_integer T )
theorem ok_entries_cover {P : Program} {w : World} {K : PySem.W.Frag} {mg : Str → Option Value} {base : Heap} (T : Tp P w K mg base) : Ok P w K mg base "entries_cover" ["big", "small"] 1 S_entries_cover :=
  let ⟨_, _, D⟩ := T.d_entries_cover
  ok_mk [] D sc_entries_cover kp_entries_cover (der_entries_cover T )
theorem ok__law_bag {P : Program} {w : World} {K : PySem.W.Frag} {mg : Str → Option Value} {base : Heap} (T : Tp P w K mg base) : Ok P w K mg base "_law_bag" ["_law_script"] 1 S__law_bag :=
  let ⟨_, _, D⟩ := T.d__law_bag
  ok_mk [] D sc__law_bag kp__law_bag (der__law_bag T )
theorem ok__law_take {P : Program} {w : World} {K : PySem.W.Frag} {mg : Str → Option Value} {base : Heap} (T : Tp P w K mg base) : Ok P w K mg base "_law_take" ["_law_bag_here", "_law_many"] 1 S__law_take :=
  let ⟨_, _, D⟩ := T.d__law_take
  ok_mk [0] D sc__law_take kp__law_take (der__law_take T )
theorem ok__law_is_integer {P : Program} {w : World} {K : PySem.W.Frag} {mg : Str → Option Value} {base : Heap} (T : Tp P w K mg base) : Ok P w K mg base "_law_is_integer" ["_law_value"] 1 S__law_is_integer :=
  let ⟨_, _, D⟩ := T.d__law_is_integer
  ok_mk [] D sc__law_is_integer kp__law_is_integer (der__law_is_integer T )
theorem ok__law_odd {P : Program} {w : World} {K : PySem.W.Frag} {mg : Str → Option Value} {base : Heap} (T : Tp P w K mg base) : Ok P w K mg base "_law_odd" ["_law_row", "_law_place", "_law_way"] 1 S__law_odd :=
  let ⟨_, _, D⟩ := T.d__law_odd
  ok_mk [] D sc__law_odd kp__law_odd (der__law_odd T )
theorem ok__law_dues {P : Program} {w : World} {K : PySem.W.Frag} {mg : Str → Option Value} {base : Heap} (T : Tp P w K mg base) : Ok P w K mg base "_law_dues" ["_law_row", "_law_odd_here", "_law_lone"] 1 S__law_dues :=
  let ⟨_, _, D⟩ := T.d__law_dues
  ok_mk [] D sc__law_dues kp__law_dues (der__law_dues T )
theorem ok__law_kinds {P : Program} {w : World} {K : PySem.W.Frag} {mg : Str → Option Value} {base : Heap} (T : Tp P w K mg base) : Ok P w K mg base "_law_kinds" ["_law_e"] 1 S__law_kinds :=
  let ⟨_, _, D⟩ := T.d__law_kinds
  ok_mk [] D sc__law_kinds kp__law_kinds (der__law_kinds T )
theorem ok_is_row {P : Program} {w : World} {K : PySem.W.Frag} {mg : Str → Option Value} {base : Heap} (T : Tp P w K mg base) : Ok P w K mg base "is_row" ["value", "width"] 2 S_is_row :=
  let ⟨_, _, D⟩ := T.d_is_row
  ok_mk [] D sc_is_row kp_is_row (der_is_row T mS_is_integer (ok_is_integer T))
theorem ok__law_is_row {P : Program} {w : World} {K : PySem.W.Frag} {mg : Str → Option Value} {base : Heap} (T : Tp P w K mg base) : Ok P w K mg base "_law_is_row" ["_law_value", "_law_width"] 2 S__law_is_row :=
  let ⟨_, _, D⟩ := T.d__law_is_row
  ok_mk [] D sc__law_is_row kp__law_is_row (der__law_is_row T mS__law_is_integer (ok__law_is_integer T))
theorem ok__law_entry {P : Program} {w : World} {K : PySem.W.Frag} {mg : Str → Option Value} {base : Heap} (T : Tp P w K mg base) : Ok P w K mg base "_law_entry" ["_law_bag_here"] 2 S__law_entry :=
  let ⟨_, _, D⟩ := T.d__law_entry
  ok_mk [0] D sc__law_entry kp__law_entry (der__law_entry T mS__law_take (ok__law_take T))
theorem ok__law_word {P : Program} {w : World} {K : PySem.W.Frag} {mg : Str → Option Value} {base : Heap} (T : Tp P w K mg base) : Ok P w K mg base "_law_word" ["_law_bag_here"] 2 S__law_word :=
  let ⟨_, _, D⟩ := T.d__law_word
  ok_mk [0] D sc__law_word kp__law_word (der__law_word T mS__law_take (ok__law_take T))
theorem ok_check_row {P : Program} {w : World} {K : PySem.W.Frag} {mg : Str → Option Value} {base : Heap} (T : Tp P w K mg base) : Ok P w K mg base "check_row" ["row", "width"] 3 S_check_row :=
  let ⟨_, _, D⟩ := T.d_check_row
  ok_mk [] D sc_check_row kp_check_row (der_check_row T mS_is_row (ok_is_row T))
theorem ok__law_near {P : Program} {w : World} {K : PySem.W.Frag} {mg : Str → Option Value} {base : Heap} (T : Tp P w K mg base) : Ok P w K mg base "_law_near" ["_law_bag_here", "_law_row"] 3 S__law_near :=
  let ⟨_, _, D⟩ := T.d__law_near
  ok_mk [0] D sc__law_near kp__law_near (der__law_near T mS__law_take mS__law_entry (ok__law_take T) (ok__law_entry T))
theorem ok__law_valued {P : Program} {w : World} {K : PySem.W.Frag} {mg : Str → Option Value} {base : Heap} (T : Tp P w K mg base) : Ok P w K mg base "_law_valued" ["_law_thing"] 3 S__law_valued :=
  let ⟨_, _, D⟩ := T.d__law_valued
  ok_mk [] D sc__law_valued kp__law_valued (der__law_valued T mS__law_kinds (ok__law_kinds T))
theorem ok__law_others {P : Program} {w : World} {K : PySem.W.Frag} {mg : Str → Option Value} {base : Heap} (T : Tp P w K mg base) : Ok P w K mg base "_law_others" ["_law_number", "_law_word_here"] 3 S__law_others :=
  let ⟨_, _, D⟩ := T.d__law_others
  ok_mk [] D sc__law_others kp__law_others (der__law_others T mS__law_kinds (ok__law_kinds T))
theorem ok_check_rows {P : Program} {w : World} {K : PySem.W.Frag} {mg : Str → Option Value} {base : Heap} (T : Tp P w K mg base) : Ok P w K mg base "check_rows" ["rows"] 4 S_check_rows :=
  let ⟨_, _, D⟩ := T.d_check_rows
  ok_mk [] D sc_check_rows kp_check_rows (der_check_rows T mS_check_row (ok_check_row T))
theorem ok_covers {P : Program} {w : World} {K : PySem.W.Frag} {mg : Str → Option Value} {base : Heap} (T : Tp P w K mg base) : Ok P w K mg base "covers" ["big", "small"] 4 S_covers :=
  let ⟨_, _, D⟩ := T.d_covers
  ok_mk [] D sc_covers kp_covers (der_covers T mS_check_row mS_entries_cover (ok_check_row T) (ok_entries_cover T))
theorem ok_size {P : Program} {w : World} {K : PySem.W.Frag} {mg : Str → Option Value} {base : Heap} (T : Tp P w K mg base) : Ok P w K mg base "size" ["row"] 4 S_size :=
  let ⟨_, _, D⟩ := T.d_size
  ok_mk [] D sc_size kp_size (der_size T mS_check_row (ok_check_row T))
theorem ok__law_rows {P : Program} {w : World} {K : PySem.W.Frag} {mg : Str → Option Value} {base : Heap} (T : Tp P w K mg base) : Ok P w K mg base "_law_rows" ["_law_bag_here", "_law_width"] 4 S__law_rows :=
  let ⟨_, _, D⟩ := T.d__law_rows
  ok_mk [0] D sc__law_rows kp__law_rows (der__law_rows T mS__law_entry mS__law_near (ok__law_entry T) (ok__law_near T))
theorem ok__law_caught {P : Program} {w : World} {K : PySem.W.Frag} {mg : Str → Option Value} {base : Heap} (T : Tp P w K mg base) : Ok P w K mg base "_law_caught" ["_law_odd_here"] 4 S__law_caught :=
  let ⟨_, _, D⟩ := T.d__law_caught
  ok_mk [] D sc__law_caught kp__law_caught (der__law_caught T mS_check_row (ok_check_row T))
theorem ok_joined {P : Program} {w : World} {K : PySem.W.Frag} {mg : Str → Option Value} {base : Heap} (T : Tp P w K mg base) : OkV P w K mg base "joined" 1 5 S_joined :=
  let ⟨_, _, D⟩ := T.d_joined
  okV_mk D sc_joined kp_joined (der_joined T mS_check_rows (ok_check_rows T))
theorem ok_shared {P : Program} {w : World} {K : PySem.W.Frag} {mg : Str → Option Value} {base : Heap} (T : Tp P w K mg base) : OkV P w K mg base "shared" 1 5 S_shared :=
  let ⟨_, _, D⟩ := T.d_shared
  okV_mk D sc_shared kp_shared (der_shared T mS_check_rows (ok_check_rows T))
theorem ok__law_orders {P : Program} {w : World} {K : PySem.W.Frag} {mg : Str → Option Value} {base : Heap} (T : Tp P w K mg base) : Ok P w K mg base "_law_orders" ["_law_rows_here"] 5 S__law_orders :=
  let ⟨_, _, D⟩ := T.d__law_orders
  ok_mk [] D sc__law_orders kp__law_orders (der__law_orders T mS_covers (ok_covers T))
theorem ok__law_told {P : Program} {w : World} {K : PySem.W.Frag} {mg : Str → Option Value} {base : Heap} (T : Tp P w K mg base) : Ok P w K mg base "_law_told" ["_law_rows_here", "_law_count", "_law_least"] 6 S__law_told :=
  let ⟨_, _, D⟩ := T.d__law_told
  ok_mk [] D sc__law_told kp__law_told (der__law_told T mS_shared mS_joined (ok_shared T) (ok_joined T))
theorem ok__law_longer {P : Program} {w : World} {K : PySem.W.Frag} {mg : Str → Option Value} {base : Heap} (T : Tp P w K mg base) : Ok P w K mg base "_law_longer" ["_law_rows_here"] 6 S__law_longer :=
  let ⟨_, _, D⟩ := T.d__law_longer
  ok_mk [] D sc__law_longer kp__law_longer (der__law_longer T mS_joined mS__law_is_row mS_shared (ok_joined T) (ok__law_is_row T) (ok_shared T))
theorem ok__law_called {P : Program} {w : World} {K : PySem.W.Frag} {mg : Str → Option Value} {base : Heap} (T : Tp P w K mg base) : Ok P w K mg base "_law_called" ["_law_number", "_law_rows_here", "_law_odd_here"] 6 S__law_called :=
  let ⟨_, _, D⟩ := T.d__law_called
  ok_mk [] D sc__law_called kp__law_called (der__law_called T mS_check_row mS_covers mS_joined mS_shared mS_size (ok_check_row T) (ok_covers T) (ok_joined T) (ok_shared T) (ok_size T))
theorem ok__law_joins {P : Program} {w : World} {K : PySem.W.Frag} {mg : Str → Option Value} {base : Heap} (T : Tp P w K mg base) : Ok P w K mg base "_law_joins" ["_law_rows_here"] 7 S__law_joins :=
  let ⟨_, _, D⟩ := T.d__law_joins
  ok_mk [] D sc__law_joins kp__law_joins (der__law_joins T mS__law_told mS__law_is_row mS_check_row mS_size mS__law_is_integer (ok__law_told T) (ok__law_is_row T) (ok_check_row T) (ok_size T) (ok__law_is_integer T))
theorem ok__law_refusals {P : Program} {w : World} {K : PySem.W.Frag} {mg : Str → Option Value} {base : Heap} (T : Tp P w K mg base) : Ok P w K mg base "_law_refusals" ["_law_bag_here", "_law_rows_here"] 7 S__law_refusals :=
  let ⟨_, _, D⟩ := T.d__law_refusals
  ok_mk [0] D sc__law_refusals kp__law_refusals (der__law_refusals T mS__law_take mS__law_odd mS__law_dues mS__law_called (ok__law_take T) (ok__law_odd T) (ok__law_dues T) (ok__law_called T))
end LV
set_option maxHeartbeats 1000000
namespace LV
open PySem PySem.Spec PySem.W L2
end LV
open PySem PySem.W PyProof.Rows
local macro_rules | `(tactic| kernel_rfl) => `(tactic| (with_reducible refine LV.map3 ?e1 ?e2 ?e3; (case e1 => exact LV.hd_e1 _ _); (case e2 => refine LV.seen9q (q' := LV.hdQ) (Xf := LV.hdF) ?hq (LV.hd_a1 _ _) (LV.hd_a2 _ _) (LV.hd_a3 _ _) (LV.hd_a4 _ _) (LV.hd_a5 _ _) (LV.hd_a6 _ _) (LV.hd_a7 _ _) (LV.hd_a8 _ _) (LV.hd_a9 _ _); (case hq => kernel_rfl)); (case e3 => exact LV.hd_e3 _ _)))
set_option maxHeartbeats 0 in
theorem PySem.Challenge.cw_lampthrong_k00_rows_in_order_holds : PySem.Challenge.rw_lampthrong_k00_rows_in_order.Holds := by
  w_on; o_law; o_headL (PySem.W.kHook LV.hdry.heap_1 LV.hdA (fun _ => by kernel_rfl)); (case hw => w_witness2)
  k_fill
  refine LV.walk_lv (l := PySem.Challenge.rw_lampthrong_k00_rows_in_order) (n := 63) (k := 8) (x := "_law_script") rfl (by decide) rfl ⟨⟨rfl, by decide, by decide⟩, rfl⟩ (fun w h Y => PySem.W.kIn_of Y) ?F
  case F =>
    intro w mg fa h KX GG hmg
    have T : ∀ base : Heap, LV.Tp PySem.Challenge.pw_lampthrong_k00_rows_in_order w _ mg base := fun base => by
      refine ⟨?_, ?_, ?_, ?_, ?_, ?_, ?_, ?_, ?_, ?_, ?_, ?_, ?_, ?_, ?_, ?_, ?_, ?_, ?_, ?_, ?_, ?_, ?_, ?_, ?_, ?_, ?_, ?_, ?_, ?_, ?_, ?_, ?_, ?_, ?_, ?_, ?_, ?_, ?_, ?_, ?_, ?_, ?_, ?_, ?_, ?_, ?_, ?_, ?_, ?_, ?_, ?_, ?_, ?_, ?_, ?_, ?_, ?_, ?_, ?_, ?_, ?_, ?_, ?_, ?_, ?_, ?_, ?_, ?_, ?_, ?_, ?_, ?_, ?_, ?_, ?_, ?_, ?_, ?_, ?_, ?_, ?_, ?_, ?_, ?_, ?_, ?_, ?_, ?_, ?_, ?_, ?_, ?_, ?_, ?_, ?_, ?_, ?_, ?_, ?_, ?_, ?_⟩
      · refine' LV.dat_mk KX GG ?a ?l ?c ?k ?b; (case a => k_is); (case l => k_is); (case c => k_is); (case k => k_is); (case b => exact fun _ _ _ _ _ _ us hl => match us, hl with | [_], _ => rfl)
      · refine' LV.dat_mk KX GG ?a ?l ?c ?k ?b; (case a => k_is); (case l => k_is); (case c => k_is); (case k => k_is); (case b => exact fun _ _ _ _ _ _ us hl => match us, hl with | [_, _], _ => rfl)
      · refine' LV.dat_mk KX GG ?a ?l ?c ?k ?b; (case a => k_is); (case l => k_is); (case c => k_is); (case k => k_is); (case b => exact fun _ _ _ _ _ _ us hl => match us, hl with | [_], _ => rfl)
      · refine' LV.dat_mk KX GG ?a ?l ?c ?k ?b; (case a => k_is); (case l => k_is); (case c => k_is); (case k => k_is); (case b => exact fun _ _ _ _ _ _ us hl => match us, hl with | [_, _], _ => rfl)
      · refine' LV.dat_mk KX GG ?a ?l ?c ?k ?b; (case a => k_is); (case l => k_is); (case c => k_is); (case k => k_is); (case b => exact fun _ _ _ _ _ _ us hl => match us, hl with | [_], _ => rfl)
      · refine' LV.dat_mk KX GG ?a ?l ?c ?k ?b; (case a => k_is); (case l => k_is); (case c => k_is); (case k => k_is); (case b => exact fun _ _ _ _ _ _ us hl => match us, hl with | [_, _, _], _ => rfl)
      · refine' LV.dat_mk KX GG ?a ?l ?c ?k ?b; (case a => k_is); (case l => k_is); (case c => k_is); (case k => k_is); (case b => exact fun _ _ _ _ _ _ us hl => match us, hl with | [_, _, _], _ => rfl)
      · refine' LV.dat_mk KX GG ?a ?l ?c ?k ?b; (case a => k_is); (case l => k_is); (case c => k_is); (case k => k_is); (case b => exact fun _ _ _ _ _ _ us hl => match us, hl with | [_], _ => rfl)
      · refine' LV.dat_mk KX GG ?a ?l ?c ?k ?b; (case a => k_is); (case l => k_is); (case c => k_is); (case k => k_is); (case b => exact fun _ _ _ _ _ _ us hl => match us, hl with | [_, _], _ => rfl)
      · refine' LV.dat_mk KX GG ?a ?l ?c ?k ?b; (case a => k_is); (case l => k_is); (case c => k_is); (case k => k_is); (case b => exact fun _ _ _ _ _ _ us hl => match us, hl with | [_, _], _ => rfl)
      · refine' LV.dat_mk KX GG ?a ?l ?c ?k ?b; (case a => k_is); (case l => k_is); (case c => k_is); (case k => k_is); (case b => exact fun _ _ _ _ _ _ us hl => match us, hl with | [_], _ => rfl)
      · refine' LV.dat_mk KX GG ?a ?l ?c ?k ?b; (case a => k_is); (case l => k_is); (case c => k_is); (case k => k_is); (case b => exact fun _ _ _ _ _ _ us hl => match us, hl with | [_], _ => rfl)
      · refine' LV.dat_mk KX GG ?a ?l ?c ?k ?b; (case a => k_is); (case l => k_is); (case c => k_is); (case k => k_is); (case b => exact fun _ _ _ _ _ _ us hl => match us, hl with | [_, _], _ => rfl)
      · refine' LV.dat_mk KX GG ?a ?l ?c ?k ?b; (case a => k_is); (case l => k_is); (case c => k_is); (case k => k_is); (case b => exact fun _ _ _ _ _ _ us hl => match us, hl with | [_, _], _ => rfl)
      · refine' LV.dat_mk KX GG ?a ?l ?c ?k ?b; (case a => k_is); (case l => k_is); (case c => k_is); (case k => k_is); (case b => exact fun _ _ _ _ _ _ us hl => match us, hl with | [_], _ => rfl)
      · refine' LV.dat_mk KX GG ?a ?l ?c ?k ?b; (case a => k_is); (case l => k_is); (case c => k_is); (case k => k_is); (case b => exact fun _ _ _ _ _ _ us hl => match us, hl with | [_, _], _ => rfl)
      · refine' LV.dat_mk KX GG ?a ?l ?c ?k ?b; (case a => k_is); (case l => k_is); (case c => k_is); (case k => k_is); (case b => exact fun _ _ _ _ _ _ us hl => match us, hl with | [_], _ => rfl)
      · refine' LV.dat_mk KX GG ?a ?l ?c ?k ?b; (case a => k_is); (case l => k_is); (case c => k_is); (case k => k_is); (case b => exact fun _ _ _ _ _ _ us hl => match us, hl with | [_, _], _ => rfl)
      · refine' LV.dat_mk KX GG ?a ?l ?c ?k ?b; (case a => k_is); (case l => k_is); (case c => k_is); (case k => k_is); (case b => exact fun _ _ _ _ _ _ us hl => match us, hl with | [_], _ => rfl)
      · refine' LV.dat_mk KX GG ?a ?l ?c ?k ?b; (case a => k_is); (case l => k_is); (case c => k_is); (case k => k_is); (case b => exact fun _ _ _ _ _ _ us hl => match us, hl with | [_, _], _ => rfl)
      · refine' LV.dat_mk KX GG ?a ?l ?c ?k ?b; (case a => k_is); (case l => k_is); (case c => k_is); (case k => k_is); (case b => exact fun _ _ _ _ _ _ us hl => match us, hl with | [_], _ => rfl)
      · refine' LV.dat_mkV KX GG ?a ?l ?c ?k ?b; (case a => k_is); (case l => k_is); (case c => k_is); (case k => k_is); (case b => exact fun _ _ _ _ _ _ us rest hl => StX.bind_star1 (B := fun l => bindArgs _ ⟨l, []⟩) (fun _ => rfl) (fun _ _ _ => rfl) us rest hl)
      · refine' LV.dat_mkV KX GG ?a ?l ?c ?k ?b; (case a => k_is); (case l => k_is); (case c => k_is); (case k => k_is); (case b => exact fun _ _ _ _ _ _ us rest hl => StX.bind_star1 (B := fun l => bindArgs _ ⟨l, []⟩) (fun _ => rfl) (fun _ _ _ => rfl) us rest hl)
      · refine' LV.dat_mk KX GG ?a ?l ?c ?k ?b; (case a => k_is); (case l => k_is); (case c => k_is); (case k => k_is); (case b => exact fun _ _ _ _ _ _ us hl => match us, hl with | [_], _ => rfl)
      · refine' LV.dat_mk KX GG ?a ?l ?c ?k ?b; (case a => k_is); (case l => k_is); (case c => k_is); (case k => k_is); (case b => exact fun _ _ _ _ _ _ us hl => match us, hl with | [_, _, _], _ => rfl)
      · refine' LV.dat_mk KX GG ?a ?l ?c ?k ?b; (case a => k_is); (case l => k_is); (case c => k_is); (case k => k_is); (case b => exact fun _ _ _ _ _ _ us hl => match us, hl with | [_], _ => rfl)
      · refine' LV.dat_mk KX GG ?a ?l ?c ?k ?b; (case a => k_is); (case l => k_is); (case c => k_is); (case k => k_is); (case b => exact fun _ _ _ _ _ _ us hl => match us, hl with | [_, _, _], _ => rfl)
      · refine' LV.dat_mk KX GG ?a ?l ?c ?k ?b; (case a => k_is); (case l => k_is); (case c => k_is); (case k => k_is); (case b => exact fun _ _ _ _ _ _ us hl => match us, hl with | [_], _ => rfl)
      · refine' LV.dat_mk KX GG ?a ?l ?c ?k ?b; (case a => k_is); (case l => k_is); (case c => k_is); (case k => k_is); (case b => exact fun _ _ _ _ _ _ us hl => match us, hl with | [_, _], _ => rfl)
      · refine' LV.dat_mk KX GG ?a ?l ?c ?k ?b; (case a => k_is); (case l => k_is); (case c => k_is); (case k => k_is); (case b => exact fun _ _ _ _ _ _ us hl => match us, hl with | [_], _ => rfl)
      · exact ⟨_, PySem.W.mg_of KX GG (by k_is)⟩
      · refine' LV.xis_own KX GG ?aX (LV.isx_cons KX GG ?aC0 ?hg0 ?hk0 ?hs0 ?hd0 ?ha0 ?hn0 ?ht0 ?hm0 (LV.kit_own ?ic0 ?ty0 ?sb0 ?sc0) LV.isx_nil); (case aX => k_is); (case aC0 => k_is); (case hg0 => k_is); (case hk0 => k_is); (case hs0 => k_is); (case hd0 => k_is); (case ha0 => k_is); (case hn0 => k_is); (case ht0 => k_is); (case hm0 => k_is); (case ic0 => k_is); (case ty0 => k_is); (case sb0 => k_is); (case sc0 => k_is)
      · refine' LV.xis_bltn (T := "ValueError") (PySem.W.mg_none_of KX GG ?mN) (by with_unfolding_all rfl) (by decide) (LV.isx_cons KX GG ?aC0 ?hg0 ?hk0 ?hs0 ?hd0 ?ha0 ?hn0 ?ht0 ?hm0 (LV.kit_bltn ?km0 ?sb0) LV.isx_nil); (case mN => k_is); (case aC0 => k_is); (case hg0 => k_is); (case hk0 => k_is); (case hs0 => k_is); (case hd0 => k_is); (case ha0 => k_is); (case hn0 => k_is); (case ht0 => k_is); (case hm0 => k_is); (case sb0 => k_is); (case km0 => decide +kernel)
      · exact LV.ec_mk KX GG (by kernel_rfl)
      · exact LV.xg_own KX GG (by kernel_rfl)
      · exact LV.xg_own KX GG (by kernel_rfl)
      · exact LV.xg_own KX GG (by kernel_rfl)
      · exact LV.xg_own KX GG (by kernel_rfl)
      · exact LV.xg_own KX GG (by kernel_rfl)
      · exact LV.xg_own KX GG (by kernel_rfl)
      · exact LV.xg_own KX GG (by kernel_rfl)
      · exact LV.xg_own KX GG (by kernel_rfl)
      · exact LV.xg_own KX GG (by kernel_rfl)
      · exact LV.xg_own KX GG (by kernel_rfl)
      · exact LV.xg_own KX GG (by kernel_rfl)
      · exact LV.xg_own KX GG (by kernel_rfl)
      · exact LV.xg_own KX GG (by kernel_rfl)
      · exact LV.xg_own KX GG (by kernel_rfl)
      · exact LV.xg_own KX GG (by kernel_rfl)
      · exact LV.xg_own KX GG (by kernel_rfl)
      · exact LV.xg_own KX GG (by kernel_rfl)
      · exact LV.xg_own KX GG (by kernel_rfl)
      · exact LV.xg_own KX GG (by kernel_rfl)
      · exact LV.xg_own KX GG (by kernel_rfl)
      · exact LV.xg_own KX GG (by kernel_rfl)
      · exact LV.xg_own KX GG (by kernel_rfl)
      · exact LV.xg_own KX GG (by kernel_rfl)
      · exact LV.xg_own KX GG (by kernel_rfl)
      · exact LV.xg_own KX GG (by kernel_rfl)
      · refine' LV.xg_bltn (T := "ValueError") KX GG (PySem.W.mg_none_of KX GG ?mN) (by with_unfolding_all rfl) (by decide) (by kernel_rfl); (case mN => k_is)
      · refine' PySem.W.mg_none_of KX GG ?_; k_is
      · refine' PySem.W.mg_none_of KX GG ?_; k_is
      · refine' PySem.W.mg_none_of KX GG ?_; k_is
      · refine' PySem.W.mg_none_of KX GG ?_; k_is
      · refine' PySem.W.mg_none_of KX GG ?_; k_is
      · refine' PySem.W.mg_none_of KX GG ?_; k_is
      · refine' PySem.W.mg_none_of KX GG ?_; k_is
      · refine' PySem.W.mg_none_of KX GG ?_; k_is
      · refine' PySem.W.mg_none_of KX GG ?_; k_is
      · refine' PySem.W.mg_none_of KX GG ?_; k_is
      · refine' PySem.W.mg_none_of KX GG ?_; k_is
      · refine' PySem.W.mg_none_of KX GG ?_; k_is
      · refine' PySem.W.mg_none_of KX GG ?_; k_is
      · refine' PySem.W.mg_none_of KX GG ?_; k_is
      · refine' PySem.W.mg_none_of KX GG ?_; k_is
      · exact ⟨_, PySem.W.mg_of KX GG (by k_is)⟩
      · refine' LV.x_mk1F (st := LV.clsInit (LV.topS 22)) KX GG ?aC ?xL ?ini ?lk ?lcd ?lcc ?cd ?sa ?eC ?tC ?kC ?ga ?gg ?hd ?nof ?tI ?mro ?nosup ?sini ?val ?stat ?rf ?v2 ?hfile ?top ?S ?hp ?hself ?hbody ?hpd ?hpc ?hev ?hsw ?b
        case aC => k_is
        case xL => k_is
        case ini => k_is
        case lk => k_is
        case lcd => k_is
        case lcc => k_is
        case cd => k_is
        case sa => k_is
        case eC => k_is
        case tC => k_is
        case kC => k_is
        case ga => k_is
        case gg => k_is
        case hd => k_is
        case nof => k_is
        case tI => k_is
        case mro => k_is
        case nosup => k_is
        case sini => ks_is
        case val => k_is
        case stat => k_is
        case rf => decide +kernel
        case v2 => rfl
        case hfile => decide +kernel
        case top => decide +kernel
        case hbody => rfl
        case hp => rfl
        case hself => rfl
        case S => exact ⟨rfl, rfl, rfl, by decide +kernel, rfl, by decide +kernel, by decide +kernel, LV.free_mk (by decide +kernel), rfl, rfl⟩
        case hpd => decide +kernel
        case hpc => decide +kernel
        case hev => exact fun env => rfl
        case hsw => exact fun env => rfl
        case b => exact fun us hl => match us, hl with | [_, _], _ => rfl
      · refine' LV.x_mkL (st := LV.clsInit (LV.topS 23)) KX GG ?aC ?xL ?ini ?lk ?lcd ?lcc ?cd ?sa ?eC ?tC ?kC ?ga ?gg ?hd ?nof ?tI ?mro ?nosup ?sini ?val ?stat ?rf ?v2 ?hfile ?top ?S ?hp ?hself ?hbody ?hpd ?hpc ?hgl ?hml ?hev ?hsw ?b
        case aC => k_is
        case xL => k_is
        case ini => k_is
        case lk => k_is
        case lcd => k_is
        case lcc => k_is
        case cd => k_is
        case sa => k_is
        case eC => k_is
        case tC => k_is
        case kC => k_is
        case ga => k_is
        case gg => k_is
        case hd => k_is
        case nof => k_is
        case tI => k_is
        case mro => k_is
        case nosup => k_is
        case sini => ks_is
        case val => k_is
        case stat => k_is
        case rf => decide +kernel
        case v2 => rfl
        case hfile => decide +kernel
        case top => decide +kernel
        case hbody => rfl
        case hp => rfl
        case hself => rfl
        case S => exact ⟨rfl, rfl, rfl, by decide +kernel, rfl, by decide +kernel, by decide +kernel, LV.free_mk (by decide +kernel), rfl, rfl⟩
        case hpd => decide +kernel
        case hpc => decide +kernel
        case hgl => decide +kernel
        case hml => exact PySem.W.mg_none_of KX GG (by k_is)
        case hev => exact fun env => rfl
        case hsw => exact fun env => rfl
        case b => exact fun us hl => match us, hl with | [_, _], _ => rfl
      · refine' LV.x_mk2 (st := LV.clsInit (LV.topS 19)) KX GG ?aC ?xL ?ini ?lk ?lcd ?lcc ?cd ?sa ?eC ?tC ?kC ?ga ?gg ?hd ?nof ?nog ?tI ?mro ?nosup ?sini ?val ?stat ?rf ?v2 ?hfile ?top ?S ?hp ?hself ?hbody ?hpd ?hpc ?hqd ?hqc ?hev ?hsw ?b
        case aC => k_is
        case xL => k_is
        case ini => k_is
        case lk => k_is
        case lcd => k_is
        case lcc => k_is
        case cd => k_is
        case sa => k_is
        case eC => k_is
        case tC => k_is
        case kC => k_is
        case ga => k_is
        case gg => k_is
        case hd => k_is
        case nof => k_is
        case nog => k_is
        case tI => k_is
        case mro => k_is
        case nosup => k_is
        case sini => ks_is
        case val => k_is
        case stat => k_is
        case rf => decide +kernel
        case v2 => rfl
        case hfile => decide +kernel
        case top => decide +kernel
        case hbody => rfl
        case hp => rfl
        case hself => rfl
        case S => exact ⟨rfl, rfl, rfl, by decide +kernel, rfl, by decide +kernel, by decide +kernel, LV.free_mk (by decide +kernel), rfl, rfl⟩
        case hpd => decide +kernel
        case hpc => decide +kernel
        case hev => exact fun env => rfl
        case hsw => exact fun env => rfl
        case b => exact fun us hl => match us, hl with | [_, _, _], _ => rfl
        case hqd => decide +kernel
        case hqc => decide +kernel
      · refine' LV.x_mk (st := LV.clsInit (LV.topS 4)) KX GG ?aC ?xL ?ini ?lk ?lcd ?lcc ?cd ?sa ?eC ?tC ?kC ?ga ?gg ?hd ?nof ?tI ?mro ?nosup ?sini ?val ?stat ?rf ?v2 ?hfile ?top ?S ?hp ?hself ?hbody ?hpd ?hpc ?hev ?hsw ?b
        case aC => k_is
        case xL => k_is
        case ini => k_is
        case lk => k_is
        case lcd => k_is
        case lcc => k_is
        case cd => k_is
        case sa => k_is
        case eC => k_is
        case tC => k_is
        case kC => k_is
        case ga => k_is
        case gg => k_is
        case hd => k_is
        case nof => k_is
        case tI => k_is
        case mro => k_is
        case nosup => k_is
        case sini => ks_is
        case val => k_is
        case stat => k_is
        case rf => decide +kernel
        case v2 => rfl
        case hfile => decide +kernel
        case top => decide +kernel
        case hbody => rfl
        case hp => rfl
        case hself => rfl
        case S => exact ⟨rfl, rfl, rfl, by decide +kernel, rfl, by decide +kernel, by decide +kernel, LV.free_mk (by decide +kernel), rfl, rfl⟩
        case hpd => decide +kernel
        case hpc => decide +kernel
        case hev => exact fun env => rfl
        case hsw => exact fun env => rfl
        case b => exact fun us hl => match us, hl with | [_, _], _ => rfl
      · refine' LV.x_mk (st := LV.clsInit (LV.topS 8)) KX GG ?aC ?xL ?ini ?lk ?lcd ?lcc ?cd ?sa ?eC ?tC ?kC ?ga ?gg ?hd ?nof ?tI ?mro ?nosup ?sini ?val ?stat ?rf ?v2 ?hfile ?top ?S ?hp ?hself ?hbody ?hpd ?hpc ?hev ?hsw ?b
        case aC => k_is
        case xL => k_is
        case ini => k_is
        case lk => k_is
        case lcd => k_is
        case lcc => k_is
        case cd => k_is
        case sa => k_is
        case eC => k_is
        case tC => k_is
        case kC => k_is
        case ga => k_is
        case gg => k_is
        case hd => k_is
        case nof => k_is
        case tI => k_is
        case mro => k_is
        case nosup => k_is
        case sini => ks_is
        case val => k_is
        case stat => k_is
        case rf => decide +kernel
        case v2 => rfl
        case hfile => decide +kernel
        case top => decide +kernel
        case hbody => rfl
        case hp => rfl
        case hself => rfl
        case S => exact ⟨rfl, rfl, rfl, by decide +kernel, rfl, by decide +kernel, by decide +kernel, LV.free_mk (by decide +kernel), rfl, rfl⟩
        case hpd => decide +kernel
        case hpc => decide +kernel
        case hev => exact fun env => rfl
        case hsw => exact fun env => rfl
        case b => exact fun us hl => match us, hl with | [_, _], _ => rfl
      · refine' LV.x_mk (st := LV.clsInit (LV.topS 13)) KX GG ?aC ?xL ?ini ?lk ?lcd ?lcc ?cd ?sa ?eC ?tC ?kC ?ga ?gg ?hd ?nof ?tI ?mro ?nosup ?sini ?val ?stat ?rf ?v2 ?hfile ?top ?S ?hp ?hself ?hbody ?hpd ?hpc ?hev ?hsw ?b
        case aC => k_is
        case xL => k_is
        case ini => k_is
        case lk => k_is
        case lcd => k_is
        case lcc => k_is
        case cd => k_is
        case sa => k_is
        case eC => k_is
        case tC => k_is
        case kC => k_is
        case ga => k_is
        case gg => k_is
        case hd => k_is
        case nof => k_is
        case tI => k_is
        case mro => k_is
        case nosup => k_is
        case sini => ks_is
        case val => k_is
        case stat => k_is
        case rf => decide +kernel
        case v2 => rfl
        case hfile => decide +kernel
        case top => decide +kernel
        case hbody => rfl
        case hp => rfl
        case hself => rfl
        case S => exact ⟨rfl, rfl, rfl, by decide +kernel, rfl, by decide +kernel, by decide +kernel, LV.free_mk (by decide +kernel), rfl, rfl⟩
        case hpd => decide +kernel
        case hpc => decide +kernel
        case hev => exact fun env => rfl
        case hsw => exact fun env => rfl
        case b => exact fun us hl => match us, hl with | [_, _], _ => rfl
      · refine' LV.x_mk (st := LV.clsInit (LV.topS 12)) KX GG ?aC ?xL ?ini ?lk ?lcd ?lcc ?cd ?sa ?eC ?tC ?kC ?ga ?gg ?hd ?nof ?tI ?mro ?nosup ?sini ?val ?stat ?rf ?v2 ?hfile ?top ?S ?hp ?hself ?hbody ?hpd ?hpc ?hev ?hsw ?b
        case aC => k_is
        case xL => k_is
        case ini => k_is
        case lk => k_is
        case lcd => k_is
        case lcc => k_is
        case cd => k_is
        case sa => k_is
        case eC => k_is
        case tC => k_is
        case kC => k_is
        case ga => k_is
        case gg => k_is
        case hd => k_is
        case nof => k_is
        case tI => k_is
        case mro => k_is
        case nosup => k_is
        case sini => ks_is
        case val => k_is
        case stat => k_is
        case rf => decide +kernel
        case v2 => rfl
        case hfile => decide +kernel
        case top => decide +kernel
        case hbody => rfl
        case hp => rfl
        case hself => rfl
        case S => exact ⟨rfl, rfl, rfl, by decide +kernel, rfl, by decide +kernel, by decide +kernel, LV.free_mk (by decide +kernel), rfl, rfl⟩
        case hpd => decide +kernel
        case hpc => decide +kernel
        case hev => exact fun env => rfl
        case hsw => exact fun env => rfl
        case b => exact fun us hl => match us, hl with | [_, _], _ => rfl
      · refine' LV.x_mk (st := LV.clsInit (LV.topS 5)) KX GG ?aC ?xL ?ini ?lk ?lcd ?lcc ?cd ?sa ?eC ?tC ?kC ?ga ?gg ?hd ?nof ?tI ?mro ?nosup ?sini ?val ?stat ?rf ?v2 ?hfile ?top ?S ?hp ?hself ?hbody ?hpd ?hpc ?hev ?hsw ?b
        case aC => k_is
        case xL => k_is
        case ini => k_is
        case lk => k_is
        case lcd => k_is
        case lcc => k_is
        case cd => k_is
        case sa => k_is
        case eC => k_is
        case tC => k_is
        case kC => k_is
        case ga => k_is
        case gg => k_is
        case hd => k_is
        case nof => k_is
        case tI => k_is
        case mro => k_is
        case nosup => k_is
        case sini => ks_is
        case val => k_is
        case stat => k_is
        case rf => decide +kernel
        case v2 => rfl
        case hfile => decide +kernel
        case top => decide +kernel
        case hbody => rfl
        case hp => rfl
        case hself => rfl
        case S => exact ⟨rfl, rfl, rfl, by decide +kernel, rfl, by decide +kernel, by decide +kernel, LV.free_mk (by decide +kernel), rfl, rfl⟩
        case hpd => decide +kernel
        case hpc => decide +kernel
        case hev => exact fun env => rfl
        case hsw => exact fun env => rfl
        case b => exact fun us hl => match us, hl with | [_, _], _ => rfl
      · refine' LV.x_mk (st := LV.clsInit (LV.topS 11)) KX GG ?aC ?xL ?ini ?lk ?lcd ?lcc ?cd ?sa ?eC ?tC ?kC ?ga ?gg ?hd ?nof ?tI ?mro ?nosup ?sini ?val ?stat ?rf ?v2 ?hfile ?top ?S ?hp ?hself ?hbody ?hpd ?hpc ?hev ?hsw ?b
        case aC => k_is
        case xL => k_is
        case ini => k_is
        case lk => k_is
        case lcd => k_is
        case lcc => k_is
        case cd => k_is
        case sa => k_is
        case eC => k_is
        case tC => k_is
        case kC => k_is
        case ga => k_is
        case gg => k_is
        case hd => k_is
        case nof => k_is
        case tI => k_is
        case mro => k_is
        case nosup => k_is
        case sini => ks_is
        case val => k_is
        case stat => k_is
        case rf => decide +kernel
        case v2 => rfl
        case hfile => decide +kernel
        case top => decide +kernel
        case hbody => rfl
        case hp => rfl
        case hself => rfl
        case S => exact ⟨rfl, rfl, rfl, by decide +kernel, rfl, by decide +kernel, by decide +kernel, LV.free_mk (by decide +kernel), rfl, rfl⟩
        case hpd => decide +kernel
        case hpc => decide +kernel
        case hev => exact fun env => rfl
        case hsw => exact fun env => rfl
        case b => exact fun us hl => match us, hl with | [_, _], _ => rfl
      · refine' LV.x_mk1F (st := LV.clsInit (LV.topS 15)) KX GG ?aC ?xL ?ini ?lk ?lcd ?lcc ?cd ?sa ?eC ?tC ?kC ?ga ?gg ?hd ?nof ?tI ?mro ?nosup ?sini ?val ?stat ?rf ?v2 ?hfile ?top ?S ?hp ?hself ?hbody ?hpd ?hpc ?hev ?hsw ?b
        case aC => k_is
        case xL => k_is
        case ini => k_is
        case lk => k_is
        case lcd => k_is
        case lcc => k_is
        case cd => k_is
        case sa => k_is
        case eC => k_is
        case tC => k_is
        case kC => k_is
        case ga => k_is
        case gg => k_is
        case hd => k_is
        case nof => k_is
        case tI => k_is
        case mro => k_is
        case nosup => k_is
        case sini => ks_is
        case val => k_is
        case stat => k_is
        case rf => decide +kernel
        case v2 => rfl
        case hfile => decide +kernel
        case top => decide +kernel
        case hbody => rfl
        case hp => rfl
        case hself => rfl
        case S => exact ⟨rfl, rfl, rfl, by decide +kernel, rfl, by decide +kernel, by decide +kernel, LV.free_mk (by decide +kernel), rfl, rfl⟩
        case hpd => decide +kernel
        case hpc => decide +kernel
        case hev => exact fun env => rfl
        case hsw => exact fun env => rfl
        case b => exact fun us hl => match us, hl with | [_, _], _ => rfl
      · refine' LV.x_mk (st := LV.clsInit (LV.topS 2)) KX GG ?aC ?xL ?ini ?lk ?lcd ?lcc ?cd ?sa ?eC ?tC ?kC ?ga ?gg ?hd ?nof ?tI ?mro ?nosup ?sini ?val ?stat ?rf ?v2 ?hfile ?top ?S ?hp ?hself ?hbody ?hpd ?hpc ?hev ?hsw ?b
        case aC => k_is
        case xL => k_is
        case ini => k_is
        case lk => k_is
        case lcd => k_is
        case lcc => k_is
        case cd => k_is
        case sa => k_is
        case eC => k_is
        case tC => k_is
        case kC => k_is
        case ga => k_is
        case gg => k_is
        case hd => k_is
        case nof => k_is
        case tI => k_is
        case mro => k_is
        case nosup => k_is
        case sini => ks_is
        case val => k_is
        case stat => k_is
        case rf => decide +kernel
        case v2 => rfl
        case hfile => decide +kernel
        case top => decide +kernel
        case hbody => rfl
        case hp => rfl
        case hself => rfl
        case S => exact ⟨rfl, rfl, rfl, by decide +kernel, rfl, by decide +kernel, by decide +kernel, LV.free_mk (by decide +kernel), rfl, rfl⟩
        case hpd => decide +kernel
        case hpc => decide +kernel
        case hev => exact fun env => rfl
        case hsw => exact fun env => rfl
        case b => exact fun us hl => match us, hl with | [_, _], _ => rfl
      · refine' LV.x_mk (st := LV.clsInit (LV.topS 3)) KX GG ?aC ?xL ?ini ?lk ?lcd ?lcc ?cd ?sa ?eC ?tC ?kC ?ga ?gg ?hd ?nof ?tI ?mro ?nosup ?sini ?val ?stat ?rf ?v2 ?hfile ?top ?S ?hp ?hself ?hbody ?hpd ?hpc ?hev ?hsw ?b
        case aC => k_is
        case xL => k_is
        case ini => k_is
        case lk => k_is
        case lcd => k_is
        case lcc => k_is
        case cd => k_is
        case sa => k_is
        case eC => k_is
        case tC => k_is
        case kC => k_is
        case ga => k_is
        case gg => k_is
        case hd => k_is
        case nof => k_is
        case tI => k_is
        case mro => k_is
        case nosup => k_is
        case sini => ks_is
        case val => k_is
        case stat => k_is
        case rf => decide +kernel
        case v2 => rfl
        case hfile => decide +kernel
        case top => decide +kernel
        case hbody => rfl
        case hp => rfl
        case hself => rfl
        case S => exact ⟨rfl, rfl, rfl, by decide +kernel, rfl, by decide +kernel, by decide +kernel, LV.free_mk (by decide +kernel), rfl, rfl⟩
        case hpd => decide +kernel
        case hpc => decide +kernel
        case hev => exact fun env => rfl
        case hsw => exact fun env => rfl
        case b => exact fun us hl => match us, hl with | [_, _], _ => rfl
      · refine' LV.x_mk (st := LV.clsInit (LV.topS 6)) KX GG ?aC ?xL ?ini ?lk ?lcd ?lcc ?cd ?sa ?eC ?tC ?kC ?ga ?gg ?hd ?nof ?tI ?mro ?nosup ?sini ?val ?stat ?rf ?v2 ?hfile ?top ?S ?hp ?hself ?hbody ?hpd ?hpc ?hev ?hsw ?b
        case aC => k_is
        case xL => k_is
        case ini => k_is
        case lk => k_is
        case lcd => k_is
        case lcc => k_is
        case cd => k_is
        case sa => k_is
        case eC => k_is
        case tC => k_is
        case kC => k_is
        case ga => k_is
        case gg => k_is
        case hd => k_is
        case nof => k_is
        case tI => k_is
        case mro => k_is
        case nosup => k_is
        case sini => ks_is
        case val => k_is
        case stat => k_is
        case rf => decide +kernel
        case v2 => rfl
        case hfile => decide +kernel
        case top => decide +kernel
        case hbody => rfl
        case hp => rfl
        case hself => rfl
        case S => exact ⟨rfl, rfl, rfl, by decide +kernel, rfl, by decide +kernel, by decide +kernel, LV.free_mk (by decide +kernel), rfl, rfl⟩
        case hpd => decide +kernel
        case hpc => decide +kernel
        case hev => exact fun env => rfl
        case hsw => exact fun env => rfl
        case b => exact fun us hl => match us, hl with | [_, _], _ => rfl
      · refine' LV.x_mk1F (st := LV.clsInit (LV.topS 16)) KX GG ?aC ?xL ?ini ?lk ?lcd ?lcc ?cd ?sa ?eC ?tC ?kC ?ga ?gg ?hd ?nof ?tI ?mro ?nosup ?sini ?val ?stat ?rf ?v2 ?hfile ?top ?S ?hp ?hself ?hbody ?hpd ?hpc ?hev ?hsw ?b
        case aC => k_is
        case xL => k_is
        case ini => k_is
        case lk => k_is
        case lcd => k_is
        case lcc => k_is
        case cd => k_is
        case sa => k_is
        case eC => k_is
        case tC => k_is
        case kC => k_is
        case ga => k_is
        case gg => k_is
        case hd => k_is
        case nof => k_is
        case tI => k_is
        case mro => k_is
        case nosup => k_is
        case sini => ks_is
        case val => k_is
        case stat => k_is
        case rf => decide +kernel
        case v2 => rfl
        case hfile => decide +kernel
        case top => decide +kernel
        case hbody => rfl
        case hp => rfl
        case hself => rfl
        case S => exact ⟨rfl, rfl, rfl, by decide +kernel, rfl, by decide +kernel, by decide +kernel, LV.free_mk (by decide +kernel), rfl, rfl⟩
        case hpd => decide +kernel
        case hpc => decide +kernel
        case hev => exact fun env => rfl
        case hsw => exact fun env => rfl
        case b => exact fun us hl => match us, hl with | [_, _], _ => rfl
      · refine' LV.x_mk (st := LV.clsInit (LV.topS 9)) KX GG ?aC ?xL ?ini ?lk ?lcd ?lcc ?cd ?sa ?eC ?tC ?kC ?ga ?gg ?hd ?nof ?tI ?mro ?nosup ?sini ?val ?stat ?rf ?v2 ?hfile ?top ?S ?hp ?hself ?hbody ?hpd ?hpc ?hev ?hsw ?b
        case aC => k_is
        case xL => k_is
        case ini => k_is
        case lk => k_is
        case lcd => k_is
        case lcc => k_is
        case cd => k_is
        case sa => k_is
        case eC => k_is
        case tC => k_is
        case kC => k_is
        case ga => k_is
        case gg => k_is
        case hd => k_is
        case nof => k_is
        case tI => k_is
        case mro => k_is
        case nosup => k_is
        case sini => ks_is
        case val => k_is
        case stat => k_is
        case rf => decide +kernel
        case v2 => rfl
        case hfile => decide +kernel
        case top => decide +kernel
        case hbody => rfl
        case hp => rfl
        case hself => rfl
        case S => exact ⟨rfl, rfl, rfl, by decide +kernel, rfl, by decide +kernel, by decide +kernel, LV.free_mk (by decide +kernel), rfl, rfl⟩
        case hpd => decide +kernel
        case hpc => decide +kernel
        case hev => exact fun env => rfl
        case hsw => exact fun env => rfl
        case b => exact fun us hl => match us, hl with | [_, _], _ => rfl
      · refine' LV.x_mk (st := LV.clsInit (LV.topS 7)) KX GG ?aC ?xL ?ini ?lk ?lcd ?lcc ?cd ?sa ?eC ?tC ?kC ?ga ?gg ?hd ?nof ?tI ?mro ?nosup ?sini ?val ?stat ?rf ?v2 ?hfile ?top ?S ?hp ?hself ?hbody ?hpd ?hpc ?hev ?hsw ?b
        case aC => k_is
        case xL => k_is
        case ini => k_is
        case lk => k_is
        case lcd => k_is
        case lcc => k_is
        case cd => k_is
        case sa => k_is
        case eC => k_is
        case tC => k_is
        case kC => k_is
        case ga => k_is
        case gg => k_is
        case hd => k_is
        case nof => k_is
        case tI => k_is
        case mro => k_is
        case nosup => k_is
        case sini => ks_is
        case val => k_is
        case stat => k_is
        case rf => decide +kernel
        case v2 => rfl
        case hfile => decide +kernel
        case top => decide +kernel
        case hbody => rfl
        case hp => rfl
        case hself => rfl
        case S => exact ⟨rfl, rfl, rfl, by decide +kernel, rfl, by decide +kernel, by decide +kernel, LV.free_mk (by decide +kernel), rfl, rfl⟩
        case hpd => decide +kernel
        case hpc => decide +kernel
        case hev => exact fun env => rfl
        case hsw => exact fun env => rfl
        case b => exact fun us hl => match us, hl with | [_, _], _ => rfl
      · refine' LV.x_mk1I (st := LV.clsInit (LV.topS 20)) KX GG ?aC ?xL ?ini ?lk ?lcd ?lcc ?cd ?sa ?eC ?tC ?kC ?ga ?gg ?hd ?nof ?tI ?mro ?nosup ?sini ?val ?stat ?rf ?v2 ?hfile ?top ?S ?hp ?hself ?hbody ?hpd ?hpc ?hev ?hsw ?b
        case aC => k_is
        case xL => k_is
        case ini => k_is
        case lk => k_is
        case lcd => k_is
        case lcc => k_is
        case cd => k_is
        case sa => k_is
        case eC => k_is
        case tC => k_is
        case kC => k_is
        case ga => k_is
        case gg => k_is
        case hd => k_is
        case nof => k_is
        case tI => k_is
        case mro => k_is
        case nosup => k_is
        case sini => ks_is
        case val => k_is
        case stat => k_is
        case rf => decide +kernel
        case v2 => rfl
        case hfile => decide +kernel
        case top => decide +kernel
        case hbody => rfl
        case hp => rfl
        case hself => rfl
        case S => exact ⟨rfl, rfl, rfl, by decide +kernel, rfl, by decide +kernel, by decide +kernel, LV.free_mk (by decide +kernel), rfl, rfl⟩
        case hpd => decide +kernel
        case hpc => decide +kernel
        case hev => exact fun env => rfl
        case hsw => exact fun env => rfl
        case b => exact fun us hl => match us, hl with | [_, _], _ => rfl
      · refine' LV.x_mk (st := LV.clsInit (LV.topS 10)) KX GG ?aC ?xL ?ini ?lk ?lcd ?lcc ?cd ?sa ?eC ?tC ?kC ?ga ?gg ?hd ?nof ?tI ?mro ?nosup ?sini ?val ?stat ?rf ?v2 ?hfile ?top ?S ?hp ?hself ?hbody ?hpd ?hpc ?hev ?hsw ?b
        case aC => k_is
        case xL => k_is
        case ini => k_is
        case lk => k_is
        case lcd => k_is
        case lcc => k_is
        case cd => k_is
        case sa => k_is
        case eC => k_is
        case tC => k_is
        case kC => k_is
        case ga => k_is
        case gg => k_is
        case hd => k_is
        case nof => k_is
        case tI => k_is
        case mro => k_is
        case nosup => k_is
        case sini => ks_is
        case val => k_is
        case stat => k_is
        case rf => decide +kernel
        case v2 => rfl
        case hfile => decide +kernel
        case top => decide +kernel
        case hbody => rfl
        case hp => rfl
        case hself => rfl
        case S => exact ⟨rfl, rfl, rfl, by decide +kernel, rfl, by decide +kernel, by decide +kernel, LV.free_mk (by decide +kernel), rfl, rfl⟩
        case hpd => decide +kernel
        case hpc => decide +kernel
        case hev => exact fun env => rfl
        case hsw => exact fun env => rfl
        case b => exact fun us hl => match us, hl with | [_, _], _ => rfl
      · refine' LV.x_mk (st := LV.clsInit (LV.topS 14)) KX GG ?aC ?xL ?ini ?lk ?lcd ?lcc ?cd ?sa ?eC ?tC ?kC ?ga ?gg ?hd ?nof ?tI ?mro ?nosup ?sini ?val ?stat ?rf ?v2 ?hfile ?top ?S ?hp ?hself ?hbody ?hpd ?hpc ?hev ?hsw ?b
        case aC => k_is
        case xL => k_is
        case ini => k_is
        case lk => k_is
        case lcd => k_is
        case lcc => k_is
        case cd => k_is
        case sa => k_is
        case eC => k_is
        case tC => k_is
        case kC => k_is
        case ga => k_is
        case gg => k_is
        case hd => k_is
        case nof => k_is
        case tI => k_is
        case mro => k_is
        case nosup => k_is
        case sini => ks_is
        case val => k_is
        case stat => k_is
        case rf => decide +kernel
        case v2 => rfl
        case hfile => decide +kernel
        case top => decide +kernel
        case hbody => rfl
        case hp => rfl
        case hself => rfl
        case S => exact ⟨rfl, rfl, rfl, by decide +kernel, rfl, by decide +kernel, by decide +kernel, LV.free_mk (by decide +kernel), rfl, rfl⟩
        case hpd => decide +kernel
        case hpc => decide +kernel
        case hev => exact fun env => rfl
        case hsw => exact fun env => rfl
        case b => exact fun us hl => match us, hl with | [_, _], _ => rfl
      · refine' LV.x_mk0 (st := LV.clsInit (LV.topS 25)) KX GG ?aC ?xL ?ini ?lk ?lcd ?lcc ?cd ?sa ?eC ?tC ?kC ?ga ?gg ?hd ?tI ?mro ?nosup ?sini ?val ?stat ?rf ?v2 ?hfile ?top ?S ?hp ?hself ?hbody ?hev ?hsw ?b
        case aC => k_is
        case xL => k_is
        case ini => k_is
        case lk => k_is
        case lcd => k_is
        case lcc => k_is
        case cd => k_is
        case sa => k_is
        case eC => k_is
        case tC => k_is
        case kC => k_is
        case ga => k_is
        case gg => k_is
        case hd => k_is
        case tI => k_is
        case mro => k_is
        case nosup => k_is
        case sini => ks_is
        case val => k_is
        case stat => k_is
        case rf => decide +kernel
        case v2 => rfl
        case hfile => decide +kernel
        case top => decide +kernel
        case hbody => rfl
        case hp => rfl
        case hself => rfl
        case S => exact ⟨rfl, rfl, rfl, by decide +kernel, rfl, by decide +kernel, by decide +kernel, LV.free_mk (by decide +kernel), rfl, rfl⟩
        case hev => exact fun env => rfl
        case hsw => exact fun env => rfl
        case b => exact fun us hl => match us, hl with | [_], _ => rfl
      · refine' LV.x_mk0 (st := LV.clsInit (LV.topS 24)) KX GG ?aC ?xL ?ini ?lk ?lcd ?lcc ?cd ?sa ?eC ?tC ?kC ?ga ?gg ?hd ?tI ?mro ?nosup ?sini ?val ?stat ?rf ?v2 ?hfile ?top ?S ?hp ?hself ?hbody ?hev ?hsw ?b
        case aC => k_is
        case xL => k_is
        case ini => k_is
        case lk => k_is
        case lcd => k_is
        case lcc => k_is
        case cd => k_is
        case sa => k_is
        case eC => k_is
        case tC => k_is
        case kC => k_is
        case ga => k_is
        case gg => k_is
        case hd => k_is
        case tI => k_is
        case mro => k_is
        case nosup => k_is
        case sini => ks_is
        case val => k_is
        case stat => k_is
        case rf => decide +kernel
        case v2 => rfl
        case hfile => decide +kernel
        case top => decide +kernel
        case hbody => rfl
        case hp => rfl
        case hself => rfl
        case S => exact ⟨rfl, rfl, rfl, by decide +kernel, rfl, by decide +kernel, by decide +kernel, LV.free_mk (by decide +kernel), rfl, rfl⟩
        case hev => exact fun env => rfl
        case hsw => exact fun env => rfl
        case b => exact fun us hl => match us, hl with | [_], _ => rfl
      · refine' LV.x_mk1J (st := LV.clsInit (LV.topS 21)) KX GG ?aC ?xL ?ini ?lk ?lcd ?lcc ?cd ?sa ?eC ?tC ?kC ?ga ?gg ?hd ?nof ?tI ?mro ?nosup ?sini ?val ?stat ?rf ?v2 ?hfile ?top ?S ?hp ?hself ?hbody ?hpd ?hpc ?hev ?hsw ?b
        case aC => k_is
        case xL => k_is
        case ini => k_is
        case lk => k_is
        case lcd => k_is
        case lcc => k_is
        case cd => k_is
        case sa => k_is
        case eC => k_is
        case tC => k_is
        case kC => k_is
        case ga => k_is
        case gg => k_is
        case hd => k_is
        case nof => k_is
        case tI => k_is
        case mro => k_is
        case nosup => k_is
        case sini => ks_is
        case val => k_is
        case stat => k_is
        case rf => decide +kernel
        case v2 => rfl
        case hfile => decide +kernel
        case top => decide +kernel
        case hbody => rfl
        case hp => rfl
        case hself => rfl
        case S => exact ⟨rfl, rfl, rfl, by decide +kernel, rfl, by decide +kernel, by decide +kernel, LV.free_mk (by decide +kernel), rfl, rfl⟩
        case hpd => decide +kernel
        case hpc => decide +kernel
        case hev => exact fun env => rfl
        case hsw => exact fun env => rfl
        case b => exact fun us hl => match us, hl with | [_, _], _ => rfl
      · refine' LV.x_mk (st := LV.clsInit (LV.topS 18)) KX GG ?aC ?xL ?ini ?lk ?lcd ?lcc ?cd ?sa ?eC ?tC ?kC ?ga ?gg ?hd ?nof ?tI ?mro ?nosup ?sini ?val ?stat ?rf ?v2 ?hfile ?top ?S ?hp ?hself ?hbody ?hpd ?hpc ?hev ?hsw ?b
        case aC => k_is
        case xL => k_is
        case ini => k_is
        case lk => k_is
        case lcd => k_is
        case lcc => k_is
        case cd => k_is
        case sa => k_is
        case eC => k_is
        case tC => k_is
        case kC => k_is
        case ga => k_is
        case gg => k_is
        case hd => k_is
        case nof => k_is
        case tI => k_is
        case mro => k_is
        case nosup => k_is
        case sini => ks_is
        case val => k_is
        case stat => k_is
        case rf => decide +kernel
        case v2 => rfl
        case hfile => decide +kernel
        case top => decide +kernel
        case hbody => rfl
        case hp => rfl
        case hself => rfl
        case S => exact ⟨rfl, rfl, rfl, by decide +kernel, rfl, by decide +kernel, by decide +kernel, LV.free_mk (by decide +kernel), rfl, rfl⟩
        case hpd => decide +kernel
        case hpc => decide +kernel
        case hev => exact fun env => rfl
        case hsw => exact fun env => rfl
        case b => exact fun us hl => match us, hl with | [_, _], _ => rfl
      · refine' LV.x_mk1E (st := LV.clsInit (LV.topS 17)) KX GG ?aC ?xL ?ini ?lk ?lcd ?lcc ?cd ?sa ?eC ?tC ?kC ?ga ?gg ?hd ?nof ?tI ?mro ?nosup ?sini ?val ?stat ?rf ?v2 ?hfile ?top ?S ?hp ?hself ?hbody ?hpd ?hpc ?hev ?hsw ?b
        case aC => k_is
        case xL => k_is
        case ini => k_is
        case lk => k_is
        case lcd => k_is
        case lcc => k_is
        case cd => k_is
        case sa => k_is
        case eC => k_is
        case tC => k_is
        case kC => k_is
        case ga => k_is
        case gg => k_is
        case hd => k_is
        case nof => k_is
        case tI => k_is
        case mro => k_is
        case nosup => k_is
        case sini => ks_is
        case val => k_is
        case stat => k_is
        case rf => decide +kernel
        case v2 => rfl
        case hfile => decide +kernel
        case top => decide +kernel
        case hbody => rfl
        case hp => rfl
        case hself => rfl
        case S => exact ⟨rfl, rfl, rfl, by decide +kernel, rfl, by decide +kernel, by decide +kernel, LV.free_mk (by decide +kernel), rfl, rfl⟩
        case hpd => decide +kernel
        case hpc => decide +kernel
        case hev => exact fun env => rfl
        case hsw => exact fun env => rfl
        case b => exact fun us hl => match us, hl with | [_, _], _ => rfl
      · refine' LV.exm_mk KX GG ?a ?a' ?eC ?iC ?tC ?sC; (case a => k_is); (case a' => k_is); (case eC => k_is); (case iC => k_is); (case tC => k_is); (case sC => first | rfl | k_is)
      · refine' LV.exm_mk KX GG ?a ?a' ?eC ?iC ?tC ?sC; (case a => k_is); (case a' => k_is); (case eC => k_is); (case iC => k_is); (case tC => k_is); (case sC => first | rfl | k_is)
    exact LV.law_at hmg (T h).d_law (fun _ _ _ _ _ _ us hl => match us, hl with | [_], _ => rfl) fun base f fd D => LV.fnG_mk [] D LV.sc_law LV.kp_law (LV.der_law (T base) LV.mS__law_bag LV.mS__law_take LV.mS__law_rows LV.mS__law_refusals LV.mS__law_longer LV.mS__law_joins LV.mS__law_orders LV.mS__law_entry LV.mS__law_caught LV.mS__law_word LV.mS__law_others LV.mS__law_valued (LV.ok__law_bag (T base)) (LV.ok__law_take (T base)) (LV.ok__law_rows (T base)) (LV.ok__law_refusals (T base)) (LV.ok__law_longer (T base)) (LV.ok__law_joins (T base)) (LV.ok__law_orders (T base)) (LV.ok__law_entry (T base)) (LV.ok__law_caught (T base)) (LV.ok__law_word (T base)) (LV.ok__law_others (T base)) (LV.ok__law_valued (T base)))
