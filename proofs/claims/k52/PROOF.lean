import PyProof.Rows.All
import Wide.All
import OpenK.AllK
import Wide.FinOn
import HandS.ForMost
import HandS.Wide
import HandS.WideBits
import HandS.TupAny
import HandS.IsInst
import HandS.Style
import HandS.Strs
import HandS.Zip
import HandS.EndBits
import KE.KUnpackStar
import HandS.More
import KE.GoesNew
import KE.GoesMore
import KE.GoesEnum
import PyProof.EqKinds
import PyProof.FactsAll.dict_1
import PyProof.FactsAll.subtypes_3
import PyProof.FactsAll.subtypes_4
import PyProof.Rows.EqBoolInt
import KE.SortKeyed
import HandS.SortKw
import HandS.Deep
import KE.DataFind
import KE.DataCmp
import HandS.CallLocal
import PyProof.FitsInt
import HandS.RaiseMore
import PyProof.TupleKey
import HandS.TupSets
import PyProof.SumAny
import HandS.NoneIn
import HandS.Conv
import KE.DatumOrd
import PyProof.MaxThree
import KE.KDictZip
import HandS.Small
import PyProof.Rows.TupAdd
import KE.SortData
import KE.KDictList
import KE.KDictPairs
import HandS.ExcCtx
import HandS.ExcOwn
import HandS.TryOnly
import HandS.WordsExc
import HandS.DictComp
import KE.KAsSuite
import HandS.TryMany
import HandS.ExcIs
import HandS.ExcValue
import HandS.TupLen
import KE.KDictCopyH
import HandS.TupMul
import PySem.Challenge.RW_steploft_k52_rows_that_are_none
set_option Elab.async false
set_option linter.all false
set_option maxRecDepth 100000
set_option maxHeartbeats 4000000
namespace DL
open PySem PySem.Spec PyProof.Rows L2
set_option autoImplicit false

/-! ### data -/
/-- data: lst is a list that nobody changes any more; ref a thing that G knows (or that doesn't matter); any: some thing of this type -/
inductive D where
  | non | bl (b : Bool) | int (i : Int) | str (x : Str) | ty (n : String) | ref (a : Addr) | any (n : String) | nt (zs : List Str) | tup (ds : List D) | lst (ds : List D)
/-- what stands at an address, by data -/
inductive GO where
  | lst (ds : List D) | dK (kvs : List (Key × D)) | dT (kvs : List (List Key × D)) | ins (C dx : Addr) (fs : List (Str × D)) | dX (ok : List (D × D) → Prop) (hs : D → Int) (kvs : List (D × D)) | ex (cls : Value) (fs : List (Str × D))
abbrev Gp := Addr → Option GO
def gup (G : Gp) (a : Addr) (o : GO) : Gp := fun b => if b = a then some o else G b
theorem gup_same {G : Gp} {a : Addr} {o : GO} : gup G a o a = some o := by unfold gup; rw [if_pos rfl]
theorem gup_ne {G : Gp} {a b : Addr} {o : GO} (h : b ≠ a) : gup G a o b = G b := by unfold gup; rw [if_neg h]
theorem gup_gup {G : Gp} {a : Addr} {o u : GO} : gup (gup G a o) a u = gup G a u := by
  funext b; unfold gup; split <;> rfl
theorem gne {G : Gp} {a b : Addr} {o : GO} (h : G a = some o) (h' : G b = none) : a ≠ b := by
  intro e; subst e; rw [h] at h'; cases h'
def knd : HO → String
  | .lst _ => "list" | .tup _ => "tuple" | .dK _ => "dict" | .dT _ => "dict" | .set _ _ => "set" | .ins _ _ _ => "ins" | .frz _ (.lst _) => "list" | .frz _ (.tup _) => "tuple" | .frz _ (.dK _) => "dict" | _ => ""
abbrev Ns := Addr → Prop
def nadd (N : Ns) (p : Addr) : Ns := fun q => q = p ∨ N q
def ndel (N : Ns) (p : Addr) : Ns := fun q => q ≠ p ∧ N q
/-- a list that nobody changes: N tells the addresses of which this is not said -/
def LstAt (K : PySem.W.Frag) (H : Hp) (N : Ns) (a : Addr) (xs : List V) : Prop :=
  (H a = some (.lst xs) ∧ ¬ N a) ∨ (∃ o, H a = some (.frz o (.lst xs))) ∨ ∃ (o : Obj) (its : Array Value) (n : Nat), K.lookup a = some o ∧ o.cls = .type "list" ∧ o.dict = none ∧ o.data = .seq its n ∧ its.size ≤ sizeLine ∧ Vals xs its.toList
theorem LstAt.sq {K : PySem.W.Frag} {H : Hp} {N : Ns} {a : Addr} {xs : List V} (h : LstAt K H N a xs) : SqL K H a xs := by
  rcases h with h | h | h
  · exact .inl (.inl h.1)
  · exact .inl (.inr h)
  · exact .inr h
/-- a tuple of texts of which it is known that it has no dict (its methods may be called) -/
def NtAt (K : PySem.W.Frag) (H : Hp) (p : Addr) (zs : List Str) : Prop :=
  (∃ o, H p = some (.frz o (.tup (zs.map V.str))) ∧ o.cls = .type "tuple" ∧ o.dict = none) ∨ ∃ (o : Obj) (its : Array Value) (n : Nat), K.lookup p = some o ∧ o.cls = .type "tuple" ∧ o.dict = none ∧ o.data = .seq its n ∧ its.size ≤ sizeLine ∧ Vals (zs.map V.str) its.toList
theorem NtAt.sq {K : PySem.W.Frag} {H : Hp} {p : Addr} {zs : List Str} (h : NtAt K H p zs) : SqT K H p (zs.map V.str) := by
  rcases h with ⟨o, h, _⟩ | ⟨o, its, n, h1, h2, h3, h4, h5, h6⟩
  · exact .inl (.inr ⟨o, h⟩)
  · exact .inr ⟨o, its, n, h1, h2, h4, h5, h6⟩
mutual
def RD (K : PySem.W.Frag) (H : Hp) (N : Ns) : D → V → Prop
  | .non, v => v = .non
  | .bl b, v => v = .bl b
  | .int i, v => v = .int i
  | .str x, v => v = .str x
  | .ty n, v => v = .ty n
  | .ref a, v => v = .ref a
  | .any n, v => ∃ a u, v = .ref a ∧ H a = some u ∧ knd u = n
  | .nt zs, v => ∃ p, v = .ref p ∧ NtAt K H p zs
  | .tup ds, v => ∃ p vs, v = .ref p ∧ SqT K H p vs ∧ RDs K H N ds vs
  | .lst ds, v => ∃ p vs, v = .ref p ∧ LstAt K H N p vs ∧ RDs K H N ds vs
def RDs (K : PySem.W.Frag) (H : Hp) (N : Ns) : List D → List V → Prop
  | [], vs => vs = []
  | d :: ds, vs => ∃ v r, vs = v :: r ∧ RD K H N d v ∧ RDs K H N ds r
end
structure KLe (H H' : Hp) : Prop where
  tup : ∀ p xs, H p = some (.tup xs) → H' p = some (.tup xs)
  ktup : ∀ p o xs, H p = some (.frz o (.tup xs)) → H' p = some (.frz o (.tup xs))
  klst : ∀ p o xs, H p = some (.frz o (.lst xs)) → H' p = some (.frz o (.lst xs))
  kind : ∀ p u, H p = some u → ∃ u', H' p = some u' ∧ knd u' = knd u
  kxd : ∀ p fs, H p = some (.xd fs) → H' p = some (.xd fs)
theorem KLe.refl (H : Hp) : KLe H H := ⟨fun _ _ h => h, fun _ _ _ h => h, fun _ _ _ h => h, fun _ u h => ⟨u, h, rfl⟩, fun _ _ h => h⟩
theorem KLe.trans {H H1 H2 : Hp} (a : KLe H H1) (b : KLe H1 H2) : KLe H H2 :=
  ⟨fun p xs h => b.tup p xs (a.tup p xs h), fun p o xs h => b.ktup p o xs (a.ktup p o xs h), fun p o xs h => b.klst p o xs (a.klst p o xs h), fun p u h => by
    obtain ⟨u1, h1, e1⟩ := a.kind p u h
    obtain ⟨u2, h2, e2⟩ := b.kind p u1 h1
    exact ⟨u2, h2, e2.trans e1⟩, fun p fs h => b.kxd p fs (a.kxd p fs h)⟩
theorem KLe.fresh {H : Hp} {p : Addr} {o : HO} (h : H p = none) : KLe H (upd H p o) :=
  ⟨fun q xs e => by rw [upd_ne (ne_of_none e h)]; exact e, fun q _ xs e => by rw [upd_ne (ne_of_none e h)]; exact e, fun q _ xs e => by rw [upd_ne (ne_of_none e h)]; exact e, fun q u e => ⟨u, by rw [upd_ne (ne_of_none e h)]; exact e, rfl⟩, fun q fs e => by rw [upd_ne (ne_of_none e h)]; exact e⟩
def mutH : HO → Bool
  | .lst _ => true | .dK _ => true | .dT _ => true | .ins _ _ _ => true | .set _ _ => true | .ext _ => true | _ => false
theorem KLe.write {H : Hp} {p : Addr} {o u : HO} (h : H p = some u) (m : mutH u = true) (k : knd o = knd u) : KLe H (upd H p o) := by
  have ne : ∀ q x, H q = some x → mutH x = false → q ≠ p := fun q x e n z => by
    subst z; rw [h] at e; cases e; rw [m] at n; cases n
  refine ⟨fun q xs e => ?_, fun q _ xs e => ?_, fun q _ xs e => ?_, fun q x e => ?_, fun q fs e => by rw [upd_ne (ne q _ e rfl)]; exact e⟩
  · rw [upd_ne (ne q _ e rfl)]; exact e
  · rw [upd_ne (ne q _ e rfl)]; exact e
  · rw [upd_ne (ne q _ e rfl)]; exact e
  · by_cases z : q = p
    · subst z; rw [h] at e; cases e; exact ⟨o, upd_same, k⟩
    · exact ⟨x, by rw [upd_ne z]; exact e, rfl⟩
/-- data stay data -/
structure Kp (H : Hp) (N : Ns) (H' : Hp) (N' : Ns) : Prop where
  kle : KLe H H'
  nv : ∀ p xs, H p = some (.lst xs) → ¬ N p → H' p = some (.lst xs) ∧ ¬ N' p
theorem Kp.refl (H : Hp) (N : Ns) : Kp H N H N := ⟨KLe.refl H, fun _ _ h n => ⟨h, n⟩⟩
theorem Kp.trans {H H1 H2 : Hp} {N N1 N2 : Ns} (a : Kp H N H1 N1) (b : Kp H1 N1 H2 N2) : Kp H N H2 N2 :=
  ⟨a.kle.trans b.kle, fun p u h n => by obtain ⟨h1, n1⟩ := a.nv p u h n; exact b.nv p u h1 n1⟩
theorem SqT.le {K : PySem.W.Frag} {H H' : Hp} {a : Addr} {xs : List V} (l : KLe H H') (h : SqT K H a xs) : SqT K H' a xs := by
  rcases h with (h | ⟨o, h⟩) | h
  · exact .inl (.inl (l.tup _ _ h))
  · exact .inl (.inr ⟨o, l.ktup _ _ _ h⟩)
  · exact .inr h
theorem LstAt.le {K : PySem.W.Frag} {H H' : Hp} {N N' : Ns} {a : Addr} {xs : List V} (l : Kp H N H' N') (h : LstAt K H N a xs) : LstAt K H' N' a xs := by
  rcases h with ⟨h, n⟩ | ⟨o, h⟩ | h
  · exact .inl (l.nv _ _ h n)
  · exact .inr (.inl ⟨o, l.kle.klst _ _ _ h⟩)
  · exact .inr (.inr h)
mutual
theorem RD.le {K : PySem.W.Frag} {H H' : Hp} {N N' : Ns} (l : Kp H N H' N') : ∀ {d : D} {v : V}, RD K H N d v → RD K H' N' d v
  | .non, _, h => by simpa only [RD] using h
  | .bl _, _, h => by simpa only [RD] using h
  | .int _, _, h => by simpa only [RD] using h
  | .str _, _, h => by simpa only [RD] using h
  | .ty _, _, h => by simpa only [RD] using h
  | .ref _, _, h => by simpa only [RD] using h
  | .any n, v, h => by
    simp only [RD] at h ⊢
    obtain ⟨a, u, e, hu, k⟩ := h
    obtain ⟨u', hu', k'⟩ := l.kle.kind a u hu
    exact ⟨a, u', e, hu', k'.trans k⟩
  | .nt zs, v, h => by
    simp only [RD] at h ⊢
    obtain ⟨p, e, s⟩ := h
    refine ⟨p, e, ?_⟩
    rcases s with ⟨o, s, r⟩ | s
    · exact .inl ⟨o, l.kle.ktup _ _ _ s, r⟩
    · exact .inr s
  | .tup ds, v, h => by
    simp only [RD] at h ⊢
    obtain ⟨p, vs, e, s, r⟩ := h
    exact ⟨p, vs, e, SqT.le l.kle s, RDs.le l r⟩
  | .lst ds, v, h => by
    simp only [RD] at h ⊢
    obtain ⟨p, vs, e, s, r⟩ := h
    exact ⟨p, vs, e, LstAt.le l s, RDs.le l r⟩
theorem RDs.le {K : PySem.W.Frag} {H H' : Hp} {N N' : Ns} (l : Kp H N H' N') : ∀ {ds : List D} {vs : List V}, RDs K H N ds vs → RDs K H' N' ds vs
  | [], _, h => by simpa only [RDs] using h
  | d :: ds, _, h => by
    simp only [RDs] at h ⊢
    obtain ⟨v, r, e, h1, h2⟩ := h
    exact ⟨v, r, e, RD.le l h1, RDs.le l h2⟩
end
section
variable {K : PySem.W.Frag} {H : Hp} {N : Ns}
theorem RD.non : RD K H N .non .non := by simp only [RD]
theorem RD.bl (b : Bool) : RD K H N (.bl b) (.bl b) := by simp only [RD]
theorem RD.int (i : Int) : RD K H N (.int i) (.int i) := by simp only [RD]
theorem RD.str (x : Str) : RD K H N (.str x) (.str x) := by simp only [RD]
theorem RD.ty (n : String) : RD K H N (.ty n) (.ty n) := by simp only [RD]
theorem RD.ref (a : Addr) : RD K H N (.ref a) (.ref a) := by simp only [RD]
theorem RD.tup {ds : List D} {p : Addr} {vs : List V} (s : SqT K H p vs) (r : RDs K H N ds vs) : RD K H N (.tup ds) (.ref p) := by simp only [RD]; exact ⟨p, vs, rfl, s, r⟩
theorem RD.lst {ds : List D} {p : Addr} {vs : List V} (s : LstAt K H N p vs) (r : RDs K H N ds vs) : RD K H N (.lst ds) (.ref p) := by simp only [RD]; exact ⟨p, vs, rfl, s, r⟩
theorem RD.of_non {v : V} (h : RD K H N .non v) : v = .non := by simpa only [RD] using h
theorem RD.of_bl {b : Bool} {v : V} (h : RD K H N (.bl b) v) : v = .bl b := by simpa only [RD] using h
theorem RD.of_int {i : Int} {v : V} (h : RD K H N (.int i) v) : v = .int i := by simpa only [RD] using h
theorem RD.of_str {i : Str} {v : V} (h : RD K H N (.str i) v) : v = .str i := by simpa only [RD] using h
theorem RD.of_ty {i : String} {v : V} (h : RD K H N (.ty i) v) : v = .ty i := by simpa only [RD] using h
theorem RD.of_ref {i : Addr} {v : V} (h : RD K H N (.ref i) v) : v = .ref i := by simpa only [RD] using h
theorem RD.of_any {n : String} {v : V} (h : RD K H N (.any n) v) : ∃ a u, v = .ref a ∧ H a = some u ∧ knd u = n := by simpa only [RD] using h
theorem RD.of_tup {ds : List D} {v : V} (h : RD K H N (.tup ds) v) : ∃ p vs, v = .ref p ∧ SqT K H p vs ∧ RDs K H N ds vs := by simpa only [RD] using h
theorem RD.of_nt {zs : List Str} {v : V} (h : RD K H N (.nt zs) v) : ∃ p, v = .ref p ∧ NtAt K H p zs := by simpa only [RD] using h
theorem RD.of_lst {ds : List D} {v : V} (h : RD K H N (.lst ds) v) : ∃ p vs, v = .ref p ∧ LstAt K H N p vs ∧ RDs K H N ds vs := by simpa only [RD] using h
theorem RDs.nil : RDs K H N [] [] := by simp only [RDs]
theorem RDs.cons {d : D} {ds : List D} {v : V} {vs : List V} (h : RD K H N d v) (t : RDs K H N ds vs) : RDs K H N (d :: ds) (v :: vs) := by simp only [RDs]; exact ⟨v, vs, rfl, h, t⟩
theorem RDs.of_nil {vs : List V} (h : RDs K H N [] vs) : vs = [] := by simpa only [RDs] using h
theorem RDs.of_cons {d : D} {ds : List D} {vs : List V} (h : RDs K H N (d :: ds) vs) : ∃ v r, vs = v :: r ∧ RD K H N d v ∧ RDs K H N ds r := by simpa only [RDs] using h
theorem RDs.length : ∀ {ds : List D} {vs : List V}, RDs K H N ds vs → ds.length = vs.length
  | [], _, h => by rw [h.of_nil]; rfl
  | d :: ds, _, h => by
    obtain ⟨v, r, rfl, _, h2⟩ := h.of_cons
    rw [List.length_cons, List.length_cons, RDs.length h2]
theorem RDs.get : ∀ {ds : List D} {vs : List V} {i : Nat} {d : D}, RDs K H N ds vs → ds[i]? = some d → ∃ v, vs[i]? = some v ∧ RD K H N d v
  | [], _, _, _, _, e => by simp at e
  | d :: ds, _, 0, _, h, e => by
    obtain ⟨v, r, rfl, h1, _⟩ := h.of_cons
    simp at e; subst e
    exact ⟨v, rfl, h1⟩
  | d :: ds, _, i + 1, x, h, e => by
    obtain ⟨v, r, rfl, _, h2⟩ := h.of_cons
    obtain ⟨u, h3, h4⟩ := RDs.get (i := i) (d := x) h2 (by simpa using e)
    exact ⟨u, by simpa using h3, h4⟩
theorem RDs.append : ∀ {ds es : List D} {vs us : List V}, RDs K H N ds vs → RDs K H N es us → RDs K H N (ds ++ es) (vs ++ us)
  | [], _, _, _, h, t => by rw [h.of_nil]; exact t
  | d :: ds, _, _, _, h, t => by
    obtain ⟨v, r, rfl, h1, h2⟩ := h.of_cons
    exact RDs.cons h1 (RDs.append h2 t)
theorem RDs.take : ∀ {ds : List D} {vs : List V} (n : Nat), RDs K H N ds vs → RDs K H N (ds.take n) (vs.take n)
  | _, _, 0, _ => by simpa using RDs.nil
  | [], _, n + 1, h => by rw [h.of_nil]; exact RDs.nil
  | d :: ds, _, n + 1, h => by
    obtain ⟨v, r, rfl, h1, h2⟩ := h.of_cons
    exact RDs.cons h1 (RDs.take n h2)
theorem RDs.drop : ∀ {ds : List D} {vs : List V} (n : Nat), RDs K H N ds vs → RDs K H N (ds.drop n) (vs.drop n)
  | _, _, 0, h => h
  | [], _, n + 1, h => by rw [h.of_nil]; exact RDs.nil
  | d :: ds, _, n + 1, h => by
    obtain ⟨v, r, rfl, h1, h2⟩ := h.of_cons
    exact RDs.drop n h2
theorem RDs.reverse : ∀ {ds : List D} {vs : List V}, RDs K H N ds vs → RDs K H N ds.reverse vs.reverse
  | [], _, h => by rw [h.of_nil]; exact RDs.nil
  | d :: ds, _, h => by
    obtain ⟨v, r, rfl, h1, h2⟩ := h.of_cons
    rw [List.reverse_cons, List.reverse_cons]
    exact RDs.append (RDs.reverse h2) (RDs.cons h1 RDs.nil)
theorem RDs.set {d : D} {v : V} (h1 : RD K H N d v) : ∀ {ds : List D} {vs : List V} (i : Nat), RDs K H N ds vs → RDs K H N (ds.set i d) (vs.set i v)
  | [], _, _, h => by rw [h.of_nil]; exact RDs.nil
  | d' :: ds, _, 0, h => by
    obtain ⟨v, r, rfl, _, h2⟩ := h.of_cons
    exact RDs.cons h1 h2
  | d' :: ds, _, i + 1, h => by
    obtain ⟨v, r, rfl, h3, h2⟩ := h.of_cons
    exact RDs.cons h3 (RDs.set h1 i h2)
theorem RDs.eraseIdx : ∀ {ds : List D} {vs : List V} (i : Nat), RDs K H N ds vs → RDs K H N (ds.eraseIdx i) (vs.eraseIdx i)
  | [], _, _, h => by rw [h.of_nil]; exact RDs.nil
  | d' :: ds, _, 0, h => by
    obtain ⟨v, r, rfl, _, h2⟩ := h.of_cons
    exact h2
  | d' :: ds, _, i + 1, h => by
    obtain ⟨v, r, rfl, h3, h2⟩ := h.of_cons
    exact RDs.cons h3 (RDs.eraseIdx i h2)
theorem RDs.dropLast {ds : List D} {vs : List V} (h : RDs K H N ds vs) : RDs K H N ds.dropLast vs.dropLast := by
  rw [List.dropLast_eq_take, List.dropLast_eq_take, h.length]; exact RDs.take _ h
theorem RDs.of_strs : ∀ {ns : List Str} {vs : List V}, RDs K H N (ns.map D.str) vs → vs = ns.map V.str
  | [], _, h => h.of_nil
  | n :: ns, _, h => by
    obtain ⟨v, r, rfl, h1, h2⟩ := RDs.of_cons h
    rw [h1.of_str, RDs.of_strs h2]; rfl
theorem RDs.strs : ∀ (ns : List Str), RDs K H N (ns.map D.str) (ns.map V.str)
  | [] => RDs.nil
  | n :: ns => RDs.cons (RD.str n) (RDs.strs ns)
end

theorem RD.nt_tup {K : PySem.W.Frag} {H : Hp} {N : Ns} {zs : List Str} {v : V} (h : RD K H N (.nt zs) v) : RD K H N (.tup (zs.map .str)) v := by
  obtain ⟨p, rfl, s⟩ := h.of_nt
  exact RD.tup s.sq (RDs.strs zs)
/-! ### what stands at addresses -/
def RKV {κ : Type} (K : PySem.W.Frag) (H : Hp) (N : Ns) : List (κ × D) → List (κ × V) → Prop := Paired fun p q => p.1 = q.1 ∧ RD K H N p.2 q.2
theorem RKV.le {κ : Type} {K : PySem.W.Frag} {H H' : Hp} {N N' : Ns} (l : Kp H N H' N') {a : List (κ × D)} {b : List (κ × V)} (h : RKV K H N a b) : RKV K H' N' a b := Paired.mapP h fun _ _ z => ⟨z.1, z.2.le l⟩
/-- a dict by its entries: hash, key, value -/
def DxIs (h : Heap) (a : Addr) (kvs : List (Int × V × V)) : Prop := kvs.length ≤ sizeLine ∧ (a == sysModules) = false ∧ ∃ o es ep, h.get? a = some o ∧ o.ExactDict ∧ o.data = .dict es ep ∧ ep = kvs.length ∧ Paired (fun (p : Int × V × V) (e : DictEntry) => e.hash = p.1 ∧ RelV p.2.1 e.key ∧ RelV p.2.2 e.val) kvs es.toList
def DxO (a : Addr) (kvs : List (Int × V × V)) : HO := .ext fun h => DxIs h a kvs
def RXV (K : PySem.W.Frag) (H : Hp) (N : Ns) (hs : D → Int) : List (D × D) → List (Int × V × V) → Prop := Paired fun p q => q.1 = hs p.1 ∧ RD K H N p.1 q.2.1 ∧ RD K H N p.2 q.2.2
theorem RXV.le {K : PySem.W.Frag} {H H' : Hp} {N N' : Ns} {hs : D → Int} (l : Kp H N H' N') {a : List (D × D)} {b : List (Int × V × V)} (h : RXV K H N hs a b) : RXV K H' N' hs a b := Paired.mapP h fun _ _ z => ⟨z.1, z.2.1.le l, z.2.2.le l⟩
/-- the dict of an exception's own fields -/
def XdOf (K : PySem.W.Frag) (H : Hp) (N : Ns) : Option Addr → List (Str × D) → Prop
  | none, fs => fs = []
  | some p, fs => fs ≠ [] ∧ ∃ fs', H p = some (.xd fs') ∧ RKV K H N fs fs'
theorem XdOf.le {K : PySem.W.Frag} {H H' : Hp} {N N' : Ns} (l : Kp H N H' N') {d : Option Addr} {fs : List (Str × D)} (h : XdOf K H N d fs) : XdOf K H' N' d fs := by
  cases d with
  | none => exact h
  | some p => obtain ⟨ne, fs', e, r⟩ := h; exact ⟨ne, fs', l.kle.kxd p fs' e, r.le l⟩
/-- an exception at rest -/
def ExK (cls : Value) (d : Option Addr) (a : Addr) : HO := .ext fun h => ∃ (oe : Obj) (vs : Array Value), h.get? a = some oe ∧ oe.cls = cls ∧ oe.dict = d ∧ oe.data = .fields vs
theorem exK_ok {P : Program} {w : World} {H : Hp} {h : Heap} {a : Addr} {cls : Value} {d : Option Addr} {oe : Obj} {vs : Array Value} (e : h.get? a = some oe) (h1 : oe.cls = cls) (h2 : oe.dict = d) (h3 : oe.data = .fields vs) : ObjOk P w H h a (ExK cls d a) :=
  ⟨⟨oe, vs, e, h1, h2, h3⟩, ⟨oe, e⟩, fun _ _ ⟨o, v, q, r⟩ k => ⟨o, v, k o q, r⟩⟩
def RO (K : PySem.W.Frag) (H : Hp) (N : Ns) (a : Addr) : GO → Prop
  | .lst ds => ∃ vs, H a = some (.lst vs) ∧ RDs K H N ds vs
  | .dK kvs => ∃ kvs', H a = some (.dK kvs') ∧ RKV K H N kvs kvs'
  | .dT kvs => ∃ kvs', H a = some (.dT kvs') ∧ RKV K H N kvs kvs'
  | .ins C dx fs => ∃ fs', H a = some (.ins C dx fs') ∧ RKV K H N fs fs'
  | .dX ok hs kvs => ∃ kvs', H a = some (DxO a kvs') ∧ RXV K H N hs kvs kvs' ∧ ok kvs
  | .ex cls fs => ∃ d, H a = some (ExK cls d a) ∧ XdOf K H N d fs
def RelG (K : PySem.W.Frag) (H : Hp) (N : Ns) (G : Gp) : Prop := ∀ a o, G a = some o → N a ∧ RO K H N a o
theorem RO.here {K : PySem.W.Frag} {H : Hp} {N : Ns} {a : Addr} {o : GO} (h : RO K H N a o) : ∃ u, H a = some u ∧ mutH u = true := by
  cases o with
  | lst ds => obtain ⟨_, h, _⟩ := h; exact ⟨_, h, rfl⟩
  | dK ds => obtain ⟨_, h, _⟩ := h; exact ⟨_, h, rfl⟩
  | dT ds => obtain ⟨_, h, _⟩ := h; exact ⟨_, h, rfl⟩
  | ins C dx ds => obtain ⟨_, h, _⟩ := h; exact ⟨_, h, rfl⟩
  | dX ok hs kvs => obtain ⟨_, h, _⟩ := h; exact ⟨_, h, rfl⟩
  | ex cls fs => obtain ⟨_, h, _⟩ := h; exact ⟨_, h, rfl⟩
theorem RO.le {K : PySem.W.Frag} {H H' : Hp} {N N' : Ns} {a : Addr} {o : GO} (l : Kp H N H' N') (e : H' a = H a) (h : RO K H N a o) : RO K H' N' a o := by
  cases o with
  | lst ds => obtain ⟨vs, h, r⟩ := h; exact ⟨vs, e.trans h, r.le l⟩
  | dK ds => obtain ⟨vs, h, r⟩ := h; exact ⟨vs, e.trans h, r.le l⟩
  | dT ds => obtain ⟨vs, h, r⟩ := h; exact ⟨vs, e.trans h, r.le l⟩
  | ins C dx ds => obtain ⟨vs, h, r⟩ := h; exact ⟨vs, e.trans h, r.le l⟩
  | dX ok hs kvs => obtain ⟨vs, h, r, z⟩ := h; exact ⟨vs, e.trans h, r.le l, z⟩
  | ex cls fs => obtain ⟨d, h, r⟩ := h; exact ⟨d, e.trans h, r.le l⟩
theorem RelG.free {K : PySem.W.Frag} {H : Hp} {N : Ns} {G : Gp} (r : RelG K H N G) {p : Addr} (h : H p = none) : G p = none := by
  cases e : G p with
  | none => rfl
  | some o =>
    obtain ⟨u, h', _⟩ := (r p o e).2.here
    rw [h] at h'; cases h'
/-- a step -/
structure Stp (K : PySem.W.Frag) (H : Hp) (N : Ns) (G : Gp) (H' : Hp) (N' : Ns) (G' : Gp) : Prop where
  kp : Kp H N H' N'
  fr : ∀ p u, H p = some u → G p = none → H' p = some u ∧ G' p = none ∧ (N p → N' p)
  rel : RelG K H' N' G'
theorem Stp.refl {K : PySem.W.Frag} {H : Hp} {N : Ns} {G : Gp} (r : RelG K H N G) : Stp K H N G H N G := ⟨Kp.refl H N, fun _ _ h n => ⟨h, n, id⟩, r⟩
theorem Stp.trans {K : PySem.W.Frag} {H H1 H2 : Hp} {N N1 N2 : Ns} {G G1 G2 : Gp} (a : Stp K H N G H1 N1 G1) (b : Stp K H1 N1 G1 H2 N2 G2) : Stp K H N G H2 N2 G2 :=
  ⟨a.kp.trans b.kp, fun p u h n => by
    obtain ⟨h1, n1, m1⟩ := a.fr p u h n
    obtain ⟨h2, n2, m2⟩ := b.fr p u h1 n1
    exact ⟨h2, n2, fun z => m2 (m1 z)⟩, b.rel⟩
def Sub (G G' : Gp) : Prop := ∀ a o, G a = some o → G' a = some o
theorem Sub.refl (G : Gp) : Sub G G := fun _ _ h => h
theorem Sub.trans {G G1 G2 : Gp} (a : Sub G G1) (b : Sub G1 G2) : Sub G G2 := fun p o h => b p o (a p o h)
theorem Sub.new {G : Gp} {p : Addr} {o : GO} (h : G p = none) : Sub G (gup G p o) := fun a u e => by rw [gup_ne (gne e h)]; exact e
theorem Sub.news {G G' : Gp} {p : Addr} {o : GO} (s : Sub G G') (h : G' p = none) : Sub G (gup G' p o) := s.trans (Sub.new h)
theorem Sub.nn {G G' : Gp} (s : Sub G G') {p : Addr} (h : G' p = none) : G p = none := by
  cases e : G p with
  | none => rfl
  | some o => rw [s p o e] at h; cases h
theorem RelG.sub {K : PySem.W.Frag} {H : Hp} {N : Ns} {G G' : Gp} (r : RelG K H N G') (s : Sub G G') : Stp K H N G' H N G := ⟨Kp.refl H N, fun p u h n => ⟨h, s.nn n, id⟩, fun a o e => r a o (s a o e)⟩
theorem Kp.new {H : Hp} {N : Ns} {p : Addr} {u : HO} (h : H p = none) : Kp H N (upd H p u) (nadd N p) :=
  ⟨KLe.fresh h, fun q x e n => ⟨by rw [upd_ne (ne_of_none e h)]; exact e, fun z => z.elim (ne_of_none e h) n⟩⟩
theorem Kp.new0 {H : Hp} {N : Ns} {p : Addr} {u : HO} (h : H p = none) : Kp H N (upd H p u) N :=
  ⟨KLe.fresh h, fun q x e n => ⟨by rw [upd_ne (ne_of_none e h)]; exact e, n⟩⟩
theorem Kp.newV {H : Hp} {N : Ns} {p : Addr} {u : HO} (h : H p = none) : Kp H N (upd H p u) (ndel N p) :=
  ⟨KLe.fresh h, fun q x e n => ⟨by rw [upd_ne (ne_of_none e h)]; exact e, fun z => n z.2⟩⟩
/-- a new object that is known -/
theorem Stp.new {K : PySem.W.Frag} {H : Hp} {N : Ns} {G : Gp} {p : Addr} {u : HO} {o : GO} (r : RelG K H N G) (h : H p = none) (ho : RO K (upd H p u) (nadd N p) p o) : Stp K H N G (upd H p u) (nadd N p) (gup G p o) := by
  refine ⟨Kp.new h, fun q x e n => ⟨by rw [upd_ne (ne_of_none e h)]; exact e, by rw [gup_ne (ne_of_none e h)]; exact n, .inr⟩, fun a o' e => ?_⟩
  by_cases z : a = p
  · subst z; rw [gup_same] at e; cases e; exact ⟨.inl rfl, ho⟩
  · rw [gup_ne z] at e
    exact ⟨.inr (r a o' e).1, (r a o' e).2.le (Kp.new h) (upd_ne z)⟩
/-- a new object that is not known -/
theorem Stp.new0 {K : PySem.W.Frag} {H : Hp} {N : Ns} {G : Gp} {p : Addr} {u : HO} (r : RelG K H N G) (h : H p = none) : Stp K H N G (upd H p u) N G := by
  refine ⟨Kp.new0 h, fun q x e n => ⟨by rw [upd_ne (ne_of_none e h)]; exact e, n, id⟩, fun a o' e => ?_⟩
  obtain ⟨x, hx, _⟩ := (r a o' e).2.here
  exact ⟨(r a o' e).1, (r a o' e).2.le (Kp.new0 h) (upd_ne (ne_of_none hx h))⟩
/-- a new object that nobody changes -/
theorem Stp.newV {K : PySem.W.Frag} {H : Hp} {N : Ns} {G : Gp} {p : Addr} {u : HO} (r : RelG K H N G) (h : H p = none) : Stp K H N G (upd H p u) (ndel N p) G := by
  refine ⟨Kp.newV h, fun q x e n => ⟨by rw [upd_ne (ne_of_none e h)]; exact e, n, fun z => ⟨ne_of_none e h, z⟩⟩, fun a o' e => ?_⟩
  obtain ⟨x, hx, _⟩ := (r a o' e).2.here
  exact ⟨⟨ne_of_none hx h, (r a o' e).1⟩, (r a o' e).2.le (Kp.newV h) (upd_ne (ne_of_none hx h))⟩
theorem Kp.write {H : Hp} {N : Ns} {p : Addr} {u u0 : HO} (hN : N p) (h : H p = some u0) (m : mutH u0 = true) (k : knd u = knd u0) : Kp H N (upd H p u) N :=
  ⟨KLe.write h m k, fun q x e n => ⟨by rw [upd_ne (fun z => n (by rw [z]; exact hN))]; exact e, n⟩⟩
/-- a known object is changed -/
theorem Stp.write {K : PySem.W.Frag} {H : Hp} {N : Ns} {G : Gp} {p : Addr} {u : HO} {o o0 : GO} {u0 : HO} (r : RelG K H N G) (hG : G p = some o0) (h : H p = some u0) (m : mutH u0 = true) (k : knd u = knd u0) (ho : RO K (upd H p u) N p o) :
    Stp K H N G (upd H p u) N (gup G p o) := by
  have hN := (r p o0 hG).1
  refine ⟨Kp.write hN h m k, fun q x e n => ?_, fun a o' e => ?_⟩
  · have ne : q ≠ p := fun z => by subst z; rw [hG] at n; cases n
    exact ⟨by rw [upd_ne ne]; exact e, by rw [gup_ne ne]; exact n, id⟩
  · by_cases z : a = p
    · subst z; rw [gup_same] at e; cases e; exact ⟨hN, ho⟩
    · rw [gup_ne z] at e
      exact ⟨(r a o' e).1, (r a o' e).2.le (Kp.write hN h m k) (upd_ne z)⟩
/-- a young object that is not known is changed -/
theorem Stp.poke {K : PySem.W.Frag} {H0 H : Hp} {N0 N : Ns} {G0 G : Gp} {p : Addr} {u u0 : HO} (s : Stp K H0 N0 G0 H N G) (h0 : H0 p = none) (h : H p = some u0) (n : G p = none) (hN : N p) (m : mutH u0 = true) (k : knd u = knd u0) :
    Stp K H0 N0 G0 (upd H p u) N G := by
  have kw := Kp.write hN h m k
  refine ⟨s.kp.trans kw, fun q x e nq => ?_, fun a o' e => ?_⟩
  · obtain ⟨h1, n1, m1⟩ := s.fr q x e nq
    exact ⟨by rw [upd_ne (ne_of_none e h0)]; exact h1, n1, m1⟩
  · have ne : a ≠ p := fun z => by subst z; rw [n] at e; cases e
    exact ⟨(s.rel a o' e).1, (s.rel a o' e).2.le kw (upd_ne ne)⟩
/-- a young object gets known -/
theorem Stp.know {K : PySem.W.Frag} {H0 H : Hp} {N0 N : Ns} {G0 G : Gp} {p : Addr} {o : GO} (s : Stp K H0 N0 G0 H N G) (h0 : H0 p = none) (hN : N p) (ho : RO K H N p o) : Stp K H0 N0 G0 H N (gup G p o) := by
  refine ⟨s.kp, fun q x e nq => ?_, fun a o' e => ?_⟩
  · obtain ⟨h1, n1, m1⟩ := s.fr q x e nq
    exact ⟨h1, by rw [gup_ne (ne_of_none e h0)]; exact n1, m1⟩
  · by_cases z : a = p
    · subst z; rw [gup_same] at e; cases e; exact ⟨hN, ho⟩
    · rw [gup_ne z] at e
      exact s.rel a o' e
/-- an object that G doesn't know is from now on never changed: it was young, or G knew it -/
theorem Kp.calm {H : Hp} {N : Ns} {p : Addr} : Kp H N H (ndel N p) := ⟨KLe.refl H, fun q x e n => ⟨e, fun z => n z.2⟩⟩
theorem Stp.calm {K : PySem.W.Frag} {H0 H : Hp} {N0 N : Ns} {G0 G : Gp} {p : Addr} (s : Stp K H0 N0 G0 H N G) (h0 : H0 p = none ∨ G0 p ≠ none) (n : G p = none) : Stp K H0 N0 G0 H (ndel N p) G := by
  refine ⟨s.kp.trans Kp.calm, fun q x e nq => ?_, fun a o' e => ?_⟩
  · obtain ⟨h1, n1, m1⟩ := s.fr q x e nq
    refine ⟨h1, n1, fun z => ⟨fun w => ?_, m1 z⟩⟩
    subst w
    rcases h0 with h0 | h0
    · rw [h0] at e; cases e
    · exact h0 nq
  · have ne : a ≠ p := fun z => by subst z; rw [n] at e; cases e
    exact ⟨⟨ne, (s.rel a o' e).1⟩, (s.rel a o' e).2.le Kp.calm rfl⟩

/-! ### slots -/
abbrev Sd := List (Option D)
def RSt (K : PySem.W.Frag) (H : Hp) (N : Ns) (σ : Sd) (τ : L2.St) : Prop := σ.length = τ.length ∧ ∀ (i : Nat) (d : D), σ[i]? = some (some d) → ∃ v, τ[i]? = some (some v) ∧ RD K H N d v
theorem RSt.le {K : PySem.W.Frag} {H H' : Hp} {N N' : Ns} {σ : Sd} {τ : L2.St} (l : Kp H N H' N') (h : RSt K H N σ τ) : RSt K H' N' σ τ := ⟨h.1, fun i d e => by obtain ⟨v, h1, h2⟩ := h.2 i d e; exact ⟨v, h1, h2.le l⟩⟩
theorem RSt.set {K : PySem.W.Frag} {H : Hp} {N : Ns} {σ : Sd} {τ : L2.St} {d : D} {v : V} (h : RSt K H N σ τ) (r : RD K H N d v) (i : Nat) : RSt K H N (σ.set i (some d)) (τ.set i (some v)) := by
  refine ⟨by rw [List.length_set, List.length_set]; exact h.1, fun j x e => ?_⟩
  by_cases hj : i = j
  · subst hj
    rw [List.getElem?_set] at e ⊢
    simp only [if_true] at e ⊢
    rw [h.1] at e
    split at e
    · rename_i hlt
      cases e
      rw [if_pos hlt]
      exact ⟨v, rfl, r⟩
    · cases e
  · rw [List.getElem?_set_ne hj] at e ⊢
    exact h.2 j x e

/-! ### transformers by data -/
abbrev DK := D → Gp → Prop
abbrev DE := Sd → Gp → DK → Prop
abbrev DT := Sd → Gp → (Bool → Gp → Prop) → Prop
abbrev DA := Sd → Gp → (List D → Gp → Prop) → Prop
structure DEnds where
  nx : Sd → Gp → Prop
  rt : DK
  bk : Sd → Gp → Prop := fun _ _ => False
  ct : Sd → Gp → Prop := fun _ _ => False
abbrev DS := DEnds → Sd → Gp → Prop
abbrev DG := D → Sd → Gp → (Sd → Gp → Prop) → Prop
abbrev DR2 := D → D → Gp → DK → Prop
abbrev DR1 := D → Gp → DK → Prop
abbrev DRn := List D → Gp → DK → Prop
/-- a continuation by values holds where the one by data does -/
def UpQ (K : PySem.W.Frag) (H : Hp) (N : Ns) (G : Gp) (R : DK) (Q : VK) : Prop := ∀ d G' N' v H', R d G' → Stp K H N G H' N' G' → RD K H' N' d v → Q v H'
def up (K : PySem.W.Frag) (t : DE) : TE := fun τ H Q => ∃ σ G N R, RSt K H N σ τ ∧ RelG K H N G ∧ t σ G R ∧ UpQ K H N G R Q
def upT (K : PySem.W.Frag) (t : DT) : TT := fun τ H Q => ∃ σ G N R, RSt K H N σ τ ∧ RelG K H N G ∧ t σ G R ∧ ∀ b G' N' H', R b G' → Stp K H N G H' N' G' → Q b H'
def upA (K : PySem.W.Frag) (t : DA) : TA := fun τ H Q => ∃ σ G N R, RSt K H N σ τ ∧ RelG K H N G ∧ t σ G R ∧ ∀ ds G' N' vs H', R ds G' → Stp K H N G H' N' G' → RDs K H' N' ds vs → Q vs H'
structure UpE (K : PySem.W.Frag) (H : Hp) (N : Ns) (G : Gp) (E : DEnds) (D : Ends) : Prop where
  nx : ∀ σ' G' N' τ' H', E.nx σ' G' → Stp K H N G H' N' G' → RSt K H' N' σ' τ' → D.nx τ' H'
  rt : UpQ K H N G E.rt D.rt
  bk : ∀ σ' G' N' τ' H', E.bk σ' G' → Stp K H N G H' N' G' → RSt K H' N' σ' τ' → D.bk τ' H'
  ct : ∀ σ' G' N' τ' H', E.ct σ' G' → Stp K H N G H' N' G' → RSt K H' N' σ' τ' → D.ct τ' H'
def upS (K : PySem.W.Frag) (t : DS) : TS := fun D τ H => ∃ σ G N E, RSt K H N σ τ ∧ RelG K H N G ∧ t E σ G ∧ UpE K H N G E D
def upG (K : PySem.W.Frag) (g : DG) : TG := fun v τ H Q => ∃ d σ G N R, RD K H N d v ∧ RSt K H N σ τ ∧ RelG K H N G ∧ g d σ G R ∧ ∀ σ' G' N' τ' H', R σ' G' → Stp K H N G H' N' G' → RSt K H' N' σ' τ' → Q τ' H'
def upR2 (K : PySem.W.Frag) (r : DR2) : R2 := fun x y H Q => ∃ c d G N R, RD K H N c x ∧ RD K H N d y ∧ RelG K H N G ∧ r c d G R ∧ UpQ K H N G R Q
def upR1 (K : PySem.W.Frag) (r : DR1) : V → Hp → VK → Prop := fun x H Q => ∃ c G N R, RD K H N c x ∧ RelG K H N G ∧ r c G R ∧ UpQ K H N G R Q
def upRn (K : PySem.W.Frag) (r : DRn) : List V → Hp → VK → Prop := fun xs H Q => ∃ cs G N R, RDs K H N cs xs ∧ RelG K H N G ∧ r cs G R ∧ UpQ K H N G R Q
def upM (K : PySem.W.Frag) (r : D → List D → Gp → DK → Prop) : V → List V → Hp → VK → Prop := fun x xs H Q => ∃ c cs G N R, RD K H N c x ∧ RDs K H N cs xs ∧ RelG K H N G ∧ r c cs G R ∧ UpQ K H N G R Q
theorem UpQ.le {K : PySem.W.Frag} {H H1 : Hp} {N N1 : Ns} {G G1 : Gp} {R : DK} {Q : VK} (q : UpQ K H N G R Q) (s : Stp K H N G H1 N1 G1) : UpQ K H1 N1 G1 R Q := fun d G' N' v H' r s' rd => q d G' N' v H' r (s.trans s') rd
theorem UpQ.at {K : PySem.W.Frag} {H : Hp} {N : Ns} {G : Gp} {R : DK} {Q : VK} (q : UpQ K H N G R Q) (r : RelG K H N G) {d : D} {v : V} (h : R d G) (rd : RD K H N d v) : Q v H := q d G N v H h (Stp.refl r) rd

def QE (X : Cx) (e : Expr) (t : DE) : Prop := PE X e (up X.K t)
def QT (X : Cx) (e : Expr) (t : DT) : Prop := PT X e (upT X.K t)
def QW (X : Cx) (e : Expr) (t : DT) : Prop := PW X e (upT X.K t)
def QA (X : Cx) (es : List Expr) (t : DA) : Prop := PA X es (upA X.K t)
def QS (X : Cx) (st : Stmt) (t : DS) : Prop := PS X st (upS X.K t)
def QSs (X : Cx) (st : List Stmt) (t : DS) : Prop := PSs X st (upS X.K t)
def QG (X : Cx) (tg : Expr) (g : DG) : Prop := PG X tg (upG X.K g)
def OpD (X : Cx) (f : Value → Value → Sem Value) (r : DR2) : Prop := OpR X f (upR2 X.K r)
def UnD (X : Cx) (f : Value → Sem Value) (r : DR1) : Prop := UnR X f (upR1 X.K r)
def CallD (X : Cx) (f : Value) (r : DRn) : Prop := CallR X f (upRn X.K r)
def IxD (X : Cx) (r : DR2) : Prop := IxR X (upR2 X.K r)

theorem pe_mono {X : Cx} {e : Expr} {t t' : TE} (h : PE X e t) (i : ∀ τ H Q, t' τ H Q → t τ H Q) : PE X e t' := ⟨fun pins s σ H Q I q => h.run pins s σ H Q I (i σ H Q q)⟩
theorem pt_mono {X : Cx} {e : Expr} {t t' : TT} (h : PT X e t) (i : ∀ τ H Q, t' τ H Q → t τ H Q) : PT X e t' := ⟨fun pins s σ H Q I q => h.run pins s σ H Q I (i σ H Q q)⟩
theorem pw_mono {X : Cx} {e : Expr} {t t' : TT} (h : PW X e t) (i : ∀ τ H Q, t' τ H Q → t τ H Q) : PW X e t' := ⟨fun wh pins s σ H Q I q => h.run wh pins s σ H Q I (i σ H Q q)⟩
theorem pa_mono {X : Cx} {e : List Expr} {t t' : TA} (h : PA X e t) (i : ∀ τ H Q, t' τ H Q → t τ H Q) : PA X e t' := ⟨fun pos pins s σ H Q I q => h.run pos pins s σ H Q I (i σ H Q q)⟩
theorem ps_mono {X : Cx} {e : Stmt} {t t' : TS} (h : PS X e t) (i : ∀ D τ H, t' D τ H → t D τ H) : PS X e t' := ⟨fun pins s σ H D I q => h.run pins s σ H D I (i D σ H q)⟩
theorem pss_mono {X : Cx} {e : List Stmt} {t t' : TS} (h : PSs X e t) (i : ∀ D τ H, t' D τ H → t D τ H) : PSs X e t' := ⟨fun pins s σ H D I q => h.run pins s σ H D I (i D σ H q)⟩
theorem pg_mono {X : Cx} {e : Expr} {t t' : TG} (h : PG X e t) (i : ∀ v τ H Q, t' v τ H Q → t v τ H Q) : PG X e t' := ⟨fun pins s σ H v u Q I r q => h.run pins s σ H v u Q I r (i v σ H Q q)⟩
theorem opr_mono {X : Cx} {f : Value → Value → Sem Value} {r r' : R2} (h : OpR X f r) (i : ∀ x y H Q, r' x y H Q → r x y H Q) : OpR X f r' := fun pins s σ H x y v u Q I rx ry q => h pins s σ H x y v u Q I rx ry (i x y H Q q)
theorem unr_mono {X : Cx} {f : Value → Sem Value} {r r' : V → Hp → VK → Prop} (h : UnR X f r) (i : ∀ x H Q, r' x H Q → r x H Q) : UnR X f r' := fun pins s σ H x v Q I rx q => h pins s σ H x v Q I rx (i x H Q q)
theorem callr_mono {X : Cx} {f : Value} {r r' : List V → Hp → VK → Prop} (h : CallR X f r) (i : ∀ x H Q, r' x H Q → r x H Q) : CallR X f r' := fun pins s σ H xs us Q I rx q => h pins s σ H xs us Q I rx (i xs H Q q)
theorem ixr_mono {X : Cx} {r r' : R2} (h : IxR X r) (i : ∀ x y H Q, r' x y H Q → r x y H Q) : IxR X r' := fun va sl pins s σ H x y v u Q I rx ry q => h va sl pins s σ H x y v u Q I rx ry (i x y H Q q)

/-! ### names and constants -/
section
variable {X : Cx} {e a b c : Expr} {pos : Pos} {t ta tb tc : DE}
def dVar (i : Nat) : DE := fun σ G R => match σ[i]? with | some (some d) => R d G | _ => False
def dC (d : D) : DE := fun _ G R => R d G
theorem qv (i : Nat) {x : Str} {pos : Pos} (hN : X.N[i]? = some x := by rfl) (hv : Vis X.env.scope x := by first | exact Or.inl rfl | exact Or.inr (Or.inl rfl) | exact Or.inr (Or.inr rfl)) (hd : (x == ("__debug__" : Str)) = false := by decide)
    (hcd : (x == ("__classdict__" : Str)) = false := by decide) : QE X (.Name x pos) (dVar i) := by
  refine pe_mono (pe_var hN hv hd hcd) fun τ H Q h => ?_
  obtain ⟨σ, G, N, R, hs, hg, ht, q⟩ := h
  unfold dVar at ht
  split at ht
  · rename_i d e
    obtain ⟨v, h1, h2⟩ := hs.2 i d e
    exact ⟨v, h1, q.at hg ht h2⟩
  · exact ht.elim
theorem up_c {K : PySem.W.Frag} {d : D} {v : V} (h : ∀ H N, RD K H N d v) {τ : L2.St} {H : Hp} {Q : VK} (u : up K (dC d) τ H Q) : Q v H := by
  obtain ⟨σ, G, N, R, hs, hg, ht, q⟩ := u
  exact q.at hg ht (h H N)
theorem qe_int {i j pos} : QE X (.Constant (.int i) j pos) (dC (.int i)) := pe_mono pe_int fun _ _ _ h => up_c (fun _ _ => RD.int i) h
theorem qe_bl {i j pos} : QE X (.Constant (.bool i) j pos) (dC (.bl i)) := pe_mono pe_bl fun _ _ _ h => up_c (fun _ _ => RD.bl i) h
theorem qe_non {j pos} : QE X (.Constant .none j pos) (dC .non) := pe_mono pe_non fun _ _ _ h => up_c (fun _ _ => RD.non) h
theorem qe_str {i j pos} : QE X (.Constant (.str i) j pos) (dC (.str i)) := pe_mono pe_str fun _ _ _ h => up_c (fun _ _ => RD.str i) h
/-- a module's constant -/
theorem qe_glob {x : Str} {d : D} {v : V} {u : Value} {pos : Pos} (hg : Gl X x) (hm : X.mg x = some u) (r : RelV v u) (h : ∀ H N, RD X.K H N d v) (hd : (x == ("__debug__" : Str)) = false := by decide) : QE X (.Name x pos) (dC d) :=
  pe_mono (pe_glob hg hm r hd) fun _ _ _ z => up_c h z

/-! ### operators -/
def dOp (r : DR2) (ta tb : DE) : DE := fun σ G R => ta σ G fun x G1 => tb σ G1 fun y G2 => r x y G2 R
def dUn (r : DR1) (ta : DE) : DE := fun σ G R => ta σ G fun x G1 => r x G1 R
theorem up_op {K : PySem.W.Frag} {r : DR2} {τ : L2.St} {H : Hp} {Q : VK} (u : up K (dOp r ta tb) τ H Q) : tOp (upR2 K r) (up K ta) (up K tb) τ H Q := by
  obtain ⟨σ, G, N, R, hs, hg, ht, q⟩ := u
  refine ⟨σ, G, N, _, hs, hg, ht, fun x G1 N1 v1 H1 h1 s1 r1 => ?_⟩
  refine ⟨σ, G1, N1, _, hs.le s1.kp, s1.rel, h1, fun y G2 N2 v2 H2 h2 s2 r2 => ?_⟩
  exact ⟨x, y, G2, N2, R, r1.le s2.kp, r2, s2.rel, h2, q.le (s1.trans s2)⟩
theorem qe_op {op : Operator} {r : DR2} (ho : OpD X (binaryOp op) r) (ha : QE X a ta) (hb : QE X b tb) : QE X (.BinOp a op b pos) (dOp r ta tb) := pe_mono (pe_op ho ha hb) fun _ _ _ h => up_op h
theorem qe_cmp {op : CmpOp} {r : DR2} (ho : OpD X (compareOp op) r) (ha : QE X a ta) (hb : QE X b tb) (hm : behindInMarks op b = false) : QE X (.Compare a [op] [b] pos) (dOp r ta tb) := pe_mono (pe_cmpR ho ha hb hm) fun _ _ _ h => up_op h
theorem qe_ix {r : DR2} (ho : IxD X r) (ha : QE X a ta) (hb : QE X b tb) (hs : PlainIx b) : QE X (.Subscript a b pos) (dOp r ta tb) := pe_mono (pe_ix ho ha hb hs) fun _ _ _ h => up_op h
theorem qe_un {op : UnaryOp} {r : DR1} (ho : UnD X (unaryOp op) r) (ha : QE X a ta) : QE X (.UnaryOp op a pos) (dUn r ta) := by
  refine pe_mono (pe_un ho ha) fun τ H Q h => ?_
  obtain ⟨σ, G, N, R, hs, hg, ht, q⟩ := h
  refine ⟨σ, G, N, _, hs, hg, ht, fun x G1 N1 v1 H1 h1 s1 r1 => ?_⟩
  exact ⟨x, G1, N1, R, r1, s1.rel, h1, q.le s1⟩
/-- a op1 b op2 c -/
def dChain (r r' : DR2) (ta tb tc : DE) : DE := fun σ G R => ta σ G fun x G1 => tb σ G1 fun y G2 => r x y G2 fun z G3 => match z with | .bl true => tc σ G3 fun w G4 => r' y w G4 R | .bl false => R (.bl false) G3 | _ => False
/-! ### tests -/
/-- a value that is a bool, as a test -/
def dB (t : DE) : DT := fun σ G R => t σ G fun x G1 => match x with | .bl b => R b G1 | _ => False
theorem upT_B {K : PySem.W.Frag} {τ : L2.St} {H : Hp} {Q : Bool → Hp → Prop} (u : upT K (dB t) τ H Q) : tB (up K t) τ H Q := by
  obtain ⟨σ, G, N, R, hs, hg, ht, q⟩ := u
  refine ⟨σ, G, N, _, hs, hg, ht, fun x G1 N1 v1 H1 h1 s1 r1 => ?_⟩
  split at h1
  · exact ⟨_, r1.of_bl, q _ _ _ _ h1 s1⟩
  · exact h1.elim
theorem qt_val (h : QE X e t) (he : ∀ whole, isTrue e X.env whole = (do let v ← whole; standAt e.pos; holding [v] (truthy v)) := by intro _; rfl) : QT X e (dB t) := pt_mono (pt_val h he) fun _ _ _ z => upT_B z
theorem qt_cmp {op : CmpOp} {r : DR2} (ho : OpD X (compareOp op) r) (ha : QE X a ta) (hb : QE X b tb) (hm : behindInMarks op b = false) : QT X (.Compare a [op] [b] pos) (dB (dOp r ta tb)) :=
  pt_mono (pt_cmpR ho ha hb hm) fun τ H Q h => by
    obtain ⟨σ, G, N, R, hs, hg, ht, q⟩ := h
    refine up_op ⟨σ, G, N, _, hs, hg, ht, fun x G1 N1 v1 H1 h1 s1 r1 => ?_⟩
    split at h1
    · exact ⟨_, r1.of_bl, q _ _ _ _ h1 s1⟩
    · exact h1.elim
theorem up_chain {K : PySem.W.Frag} {r r' : DR2} {τ : L2.St} {H : Hp} {Q : VK} (u : up K (dChain r r' ta tb tc) τ H Q) : tChain (upR2 K r) (upR2 K r') (up K ta) (up K tb) (up K tc) τ H Q := by
  obtain ⟨σ, G, N, R, hs, hg, ht, q⟩ := u
  refine ⟨σ, G, N, _, hs, hg, ht, fun x G1 N1 v1 H1 h1 s1 r1 => ?_⟩
  refine ⟨σ, G1, N1, _, hs.le s1.kp, s1.rel, h1, fun y G2 N2 v2 H2 h2 s2 r2 => ?_⟩
  refine ⟨x, y, G2, N2, _, r1.le s2.kp, r2, s2.rel, h2, fun z G3 N3 v3 H3 h3 s3 r3 => ?_⟩
  have s13 := (s1.trans s2).trans s3
  split at h3
  · refine ⟨true, r3.of_bl, ?_⟩
    rw [if_pos rfl]
    refine ⟨σ, G3, N3, _, hs.le s13.kp, s3.rel, h3, fun w G4 N4 v4 H4 h4 s4 r4 => ?_⟩
    exact ⟨y, w, G4, N4, R, (r2.le s3.kp).le s4.kp, r4, s4.rel, h4, q.le (s13.trans s4)⟩
  · refine ⟨false, r3.of_bl, ?_⟩
    rw [if_neg Bool.false_ne_true]
    exact (q.le s13).at s3.rel h3 (RD.bl _)
  · exact h3.elim
theorem qt_chain {op op' : CmpOp} {r r' : DR2} (ho : OpD X (compareOp op) r) (ho' : OpD X (compareOp op') r') (ha : QE X a ta) (hb : QE X b tb) (hc : QE X c tc)
    (hm : lastMarks [op, op'] [b, c] = false := by with_unfolding_all rfl) : QT X (.Compare a [op, op'] [b, c] pos) (dB (dChain r r' ta tb tc)) :=
  pt_mono (pt_chain ho ho' ha hb hc hm) fun τ H Q h => by
    obtain ⟨σ, G, N, R, hs, hg, ht, q⟩ := h
    refine up_chain ⟨σ, G, N, _, hs, hg, ht, fun x G1 N1 v1 H1 h1 s1 r1 => ?_⟩
    split at h1
    · exact ⟨_, r1.of_bl, q _ _ _ _ h1 s1⟩
    · exact h1.elim
variable {u u' : DT} {rest : List Expr}
def dAnd (t u : DT) : DT := fun σ G R => t σ G fun c G1 => match c with | true => u σ G1 R | false => R false G1
def dOr (t u : DT) : DT := fun σ G R => t σ G fun c G1 => match c with | true => R true G1 | false => u σ G1 R
def dNot (t : DT) : DT := fun σ G R => t σ G fun c G1 => R (!c) G1
theorem QW.pt (h : QW X e u) : QT X e u := PW.pt h
theorem qw_and1 (ha : QT X a u) : QW X (.BoolOp .And [a] pos) u := pw_and1 ha
theorem qw_or1 (ha : QT X a u) : QW X (.BoolOp .Or [a] pos) u := pw_or1 ha
theorem qw_and (ha : QT X a u) (hb : QW X (.BoolOp .And (b :: rest) pos) u') : QW X (.BoolOp .And (a :: b :: rest) pos) (dAnd u u') :=
  pw_mono (pw_and ha hb) fun τ H Q h => by
    obtain ⟨σ, G, N, R, hs, hg, ht, q⟩ := h
    refine ⟨σ, G, N, _, hs, hg, ht, fun c G1 N1 H1 h1 s1 => ?_⟩
    cases c with
    | true => rw [if_pos rfl]; exact ⟨σ, G1, N1, R, hs.le s1.kp, s1.rel, h1, fun b G2 N2 H2 h2 s2 => q b G2 N2 H2 h2 (s1.trans s2)⟩
    | false => rw [if_neg Bool.false_ne_true]; exact q _ _ _ _ h1 s1
theorem qw_or (ha : QT X a u) (hb : QW X (.BoolOp .Or (b :: rest) pos) u') : QW X (.BoolOp .Or (a :: b :: rest) pos) (dOr u u') :=
  pw_mono (pw_or ha hb) fun τ H Q h => by
    obtain ⟨σ, G, N, R, hs, hg, ht, q⟩ := h
    refine ⟨σ, G, N, _, hs, hg, ht, fun c G1 N1 H1 h1 s1 => ?_⟩
    cases c with
    | true => rw [if_pos rfl]; exact q _ _ _ _ h1 s1
    | false => rw [if_neg Bool.false_ne_true]; exact ⟨σ, G1, N1, R, hs.le s1.kp, s1.rel, h1, fun b G2 N2 H2 h2 s2 => q b G2 N2 H2 h2 (s1.trans s2)⟩
theorem qt_not (ha : QT X a u) : QT X (.UnaryOp .Not a pos) (dNot u) :=
  pt_mono (pt_not ha) fun τ H Q h => by
    obtain ⟨σ, G, N, R, hs, hg, ht, q⟩ := h
    exact ⟨σ, G, N, _, hs, hg, ht, fun c G1 N1 H1 h1 s1 => q _ _ _ _ h1 s1⟩
/-- .. as values that are bools -/
def dAndV (ta tb : DE) : DE := fun σ G R => ta σ G fun x G1 => match x with | .bl true => tb σ G1 R | .bl false => R (.bl false) G1 | _ => False
def dOrV (ta tb : DE) : DE := fun σ G R => ta σ G fun x G1 => match x with | .bl true => R (.bl true) G1 | .bl false => tb σ G1 R | _ => False
def dNotV (ta : DE) : DE := fun σ G R => ta σ G fun x G1 => match x with | .bl c => R (.bl (!c)) G1 | _ => False
theorem qe_one {op} (h : QE X a t) : QE X (.BoolOp op [a] pos) t := pe_one h
theorem qe_and (ha : QE X a ta) (hb : QE X (.BoolOp .And (b :: rest) pos) tb) : QE X (.BoolOp .And (a :: b :: rest) pos) (dAndV ta tb) :=
  pe_mono (pe_and ha hb) fun τ H Q h => by
    obtain ⟨σ, G, N, R, hs, hg, ht, q⟩ := h
    refine ⟨σ, G, N, _, hs, hg, ht, fun x G1 N1 v1 H1 h1 s1 r1 => ?_⟩
    split at h1
    · refine ⟨true, r1.of_bl, ?_⟩
      rw [if_pos rfl]
      exact ⟨σ, G1, N1, R, hs.le s1.kp, s1.rel, h1, q.le s1⟩
    · refine ⟨false, r1.of_bl, ?_⟩
      rw [if_neg Bool.false_ne_true]
      exact (q.le s1).at s1.rel h1 (RD.bl _)
    · exact h1.elim
theorem qe_or (ha : QE X a ta) (hb : QE X (.BoolOp .Or (b :: rest) pos) tb) : QE X (.BoolOp .Or (a :: b :: rest) pos) (dOrV ta tb) :=
  pe_mono (pe_or ha hb) fun τ H Q h => by
    obtain ⟨σ, G, N, R, hs, hg, ht, q⟩ := h
    refine ⟨σ, G, N, _, hs, hg, ht, fun x G1 N1 v1 H1 h1 s1 r1 => ?_⟩
    split at h1
    · refine ⟨true, r1.of_bl, ?_⟩
      rw [if_pos rfl]
      exact (q.le s1).at s1.rel h1 (RD.bl _)
    · refine ⟨false, r1.of_bl, ?_⟩
      rw [if_neg Bool.false_ne_true]
      exact ⟨σ, G1, N1, R, hs.le s1.kp, s1.rel, h1, q.le s1⟩
    · exact h1.elim
theorem qe_not (ha : QE X a ta) : QE X (.UnaryOp .Not a pos) (dNotV ta) :=
  pe_mono (pe_not ha) fun τ H Q h => by
    obtain ⟨σ, G, N, R, hs, hg, ht, q⟩ := h
    refine ⟨σ, G, N, _, hs, hg, ht, fun x G1 N1 v1 H1 h1 s1 r1 => ?_⟩
    split at h1
    · exact ⟨_, r1.of_bl, (q.le s1).at s1.rel h1 (RD.bl _)⟩
    · exact h1.elim
def dIf (t : DT) (ta tb : DE) : DE := fun σ G R => t σ G fun c G1 => match c with | true => ta σ G1 R | false => tb σ G1 R
theorem qe_ifExp (hc : QT X c u) (ha : QE X a ta) (hb : QE X b tb) : QE X (.IfExp c a b pos) (dIf u ta tb) :=
  pe_mono (pe_ifExp hc ha hb) fun τ H Q h => by
    obtain ⟨σ, G, N, R, hs, hg, ht, q⟩ := h
    refine ⟨σ, G, N, _, hs, hg, ht, fun c G1 N1 H1 h1 s1 => ?_⟩
    cases c with
    | true => rw [if_pos rfl]; exact ⟨σ, G1, N1, R, hs.le s1.kp, s1.rel, h1, q.le s1⟩
    | false => rw [if_neg Bool.false_ne_true]; exact ⟨σ, G1, N1, R, hs.le s1.kp, s1.rel, h1, q.le s1⟩
/-! ### argument lists, displays -/
variable {es : List Expr} {tr : DA}
def dNil : DA := fun _ G R => R [] G
def dCons (ta : DE) (tr : DA) : DA := fun σ G R => ta σ G fun x G1 => tr σ G1 fun xs G2 => R (x :: xs) G2
theorem qa_nil : QA X [] dNil := pa_mono pa_nil fun τ H Q h => by
  obtain ⟨σ, G, N, R, hs, hg, ht, q⟩ := h
  exact q [] G N [] H ht (Stp.refl hg) RDs.nil
theorem qa_cons (ha : QE X e t) (hr : QA X es tr) (hs : starEach (e :: es) X.env = (false, eval e X.env) :: starEach es X.env := by rfl) : QA X (e :: es) (dCons t tr) :=
  pa_mono (pa_cons ha hr hs) fun τ H Q h => by
    obtain ⟨σ, G, N, R, hs, hg, ht, q⟩ := h
    refine ⟨σ, G, N, _, hs, hg, ht, fun x G1 N1 v1 H1 h1 s1 r1 => ?_⟩
    refine ⟨σ, G1, N1, _, hs.le s1.kp, s1.rel, h1, fun ds G2 N2 vs H2 h2 s2 r2 => ?_⟩
    exact q _ G2 N2 _ H2 h2 (s1.trans s2) (RDs.cons (r1.le s2.kp) r2)
/-- a new list: known (to be changed), or one that nobody changes -/
def newL (mk : Bool) (ds : List D) (G : Gp) (R : DK) : Prop := match mk with | true => ∀ p, G p = none → R (.ref p) (gup G p (.lst ds)) | false => R (.lst ds) G
theorem newL_ok {K : PySem.W.Frag} {mk : Bool} {H : Hp} {N : Ns} {G : Gp} {ds : List D} {vs : List V} {R : DK} {Q : VK} (r : RelG K H N G) (rd : RDs K H N ds vs) (h : newL mk ds G R) (q : UpQ K H N G R Q) {p : Addr} (np : H p = none) : Q (.ref p) (upd H p (.lst vs)) := by
  cases mk with
  | true =>
    exact q _ _ _ _ _ (h p (r.free np)) (Stp.new (u := .lst vs) (o := .lst ds) r np ⟨vs, upd_same, rd.le (Kp.new np)⟩) (RD.ref p)
  | false =>
    exact q _ _ _ _ _ h (Stp.newV (u := .lst vs) r np) (RD.lst (.inl ⟨upd_same, fun z => z.1 rfl⟩) (rd.le (Kp.newV np)))
theorem newT_ok {K : PySem.W.Frag} {H : Hp} {N : Ns} {G : Gp} {ds : List D} {vs : List V} {R : DK} {Q : VK} (r : RelG K H N G) (rd : RDs K H N ds vs) (h : R (.tup ds) G) (q : UpQ K H N G R Q) {p : Addr} (np : H p = none) : Q (.ref p) (upd H p (.tup vs)) :=
  q _ _ _ _ _ h (Stp.new0 (u := .tup vs) r np) (RD.tup (.inl (.inl upd_same)) (rd.le (Kp.new0 np)))
def dTup (t : DA) : DE := fun σ G R => t σ G fun ds G1 => ds.length ≤ sizeLine ∧ R (.tup ds) G1
def dLst (mk : Bool) (t : DA) : DE := fun σ G R => t σ G fun ds G1 => ds.length ≤ sizeLine ∧ newL mk ds G1 R
theorem qe_tup {x1} (h : QA X es tr) : QE X (.Tuple es x1 pos) (dTup tr) := pe_mono (pe_tup h) fun τ H Q h => by
  obtain ⟨σ, G, N, R, hs, hg, ht, q⟩ := h
  refine ⟨σ, G, N, _, hs, hg, ht, fun ds G1 N1 vs H1 h1 s1 r1 => ⟨by rw [← r1.length]; exact h1.1, fun p np => ?_⟩⟩
  exact newT_ok s1.rel r1 h1.2 (q.le s1) np
theorem qe_lst (mk : Bool) (h : QA X es tr) : QE X (.List es pos) (dLst mk tr) := pe_mono (pe_lst h) fun τ H Q h => by
  obtain ⟨σ, G, N, R, hs, hg, ht, q⟩ := h
  refine ⟨σ, G, N, _, hs, hg, ht, fun ds G1 N1 vs H1 h1 s1 r1 => ⟨by rw [← r1.length]; exact h1.1, fun p np => ?_⟩⟩
  exact newL_ok s1.rel r1 h1.2 (q.le s1) np
/-! ### calls of built-ins -/
def dCallB (r : DRn) (t : DA) : DE := fun σ G R => t σ G fun ds G1 => r ds G1 R
end
end DL

set_option Elab.async false
set_option linter.all false
set_option maxRecDepth 100000
set_option maxHeartbeats 4000000
set_option autoImplicit false
namespace DL
open PySem PySem.Spec PyProof.Rows L2

/-! ### blocks and small statements -/
theorem UpE.le {K : PySem.W.Frag} {H H1 : Hp} {N N1 : Ns} {G G1 : Gp} {E : DEnds} {D : Ends} (u : UpE K H N G E D) (s : Stp K H N G H1 N1 G1) : UpE K H1 N1 G1 E D :=
  ⟨fun σ' G' N' τ' H' h s' => u.nx σ' G' N' τ' H' h (s.trans s'), u.rt.le s, fun σ' G' N' τ' H' h s' => u.bk σ' G' N' τ' H' h (s.trans s'), fun σ' G' N' τ' H' h s' => u.ct σ' G' N' τ' H' h (s.trans s')⟩
section
variable {X : Cx} {st : Stmt} {rest : List Stmt} {t u : DS} {e : Expr} {te : DE} {pos : Pos}
def dNext : DS := fun D σ G => D.nx σ G
def dSeq (t u : DS) : DS := fun D σ G => t { D with nx := u D } σ G
theorem qss_nil : QSs X [] dNext := pss_mono pss_nil fun D τ H h => by
  obtain ⟨σ, G, N, E, hs, hg, ht, q⟩ := h
  exact q.nx _ _ _ _ _ ht (Stp.refl hg) hs
theorem qss_cons (h1 : QS X st t) (h2 : QSs X rest u) : QSs X (st :: rest) (dSeq t u) := pss_mono (pss_cons h1 h2) fun D τ H h => by
  obtain ⟨σ, G, N, E, hs, hg, ht, q⟩ := h
  refine ⟨σ, G, N, _, hs, hg, ht, ⟨fun σ' G' N' τ' H' h s' r => ?_, q.rt, q.bk, q.ct⟩⟩
  exact ⟨σ', G', N', E, r, s'.rel, h, q.le s'⟩
theorem qss_one (h1 : QS X st t) : QSs X [st] t := pss_mono (pss_one h1) fun D τ H h => h
def dBreak : DS := fun D σ G => D.bk σ G
def dCont : DS := fun D σ G => D.ct σ G
theorem qs_continue : QS X (.Continue pos) dCont := ps_mono ps_continue fun D τ H h => by
  obtain ⟨σ, G, N, E, hs, hg, ht, q⟩ := h
  exact q.ct _ _ _ _ _ ht (Stp.refl hg) hs
def dDrop (te : DE) : DS := fun D σ G => te σ G fun _ G1 => D.nx σ G1
theorem qs_expr (he : QE X e te) (hs : swapsWith e none pos.line X.env = pure false := by rfl) : QS X (.Expr e pos) (dDrop te) := ps_mono (ps_expr he hs) fun D τ H h => by
  obtain ⟨σ, G, N, E, hs, hg, ht, q⟩ := h
  exact ⟨σ, G, N, _, hs, hg, ht, fun d G' N' v H' h s' r => q.nx _ _ _ _ _ h s' (hs.le s'.kp)⟩
/-- what may be said instead: fewer known things, a list that is left alone from now on -/
inductive Wk (G : Gp) : D → D → Gp → Prop where
  | same {d : D} {G0 : Gp} : Sub G0 G → Wk G d d G0
  | lst {p : Addr} {ds : List D} {G0 : Gp} : G p = some (.lst ds) → Sub G0 G → G0 p = none → Wk G (.ref p) (.lst ds) G0
theorem UpQ.wk {K : PySem.W.Frag} {H0 H : Hp} {N0 N : Ns} {G0 G G' : Gp} {R : DK} {Q : VK} {d d' : D} {v : V} (q : UpQ K H0 N0 G0 R Q) (s : Stp K H0 N0 G0 H N G) (rd : RD K H N d v) (w : Wk G d d' G') (h : R d' G') (hy : ∀ p, G p ≠ none → H0 p = none ∨ G0 p ≠ none) : Q v H := by
  cases w with
  | same sb => exact q _ _ _ _ _ h (s.trans (s.rel.sub sb)) rd
  | @lst p ds _ e sb n =>
    obtain rfl := rd.of_ref
    obtain ⟨hN, vs, hv, hd⟩ := s.rel p _ e
    have s2 := (s.trans (s.rel.sub sb)).calm (hy p (by rw [e]; simp)) n
    exact q _ _ _ _ _ h s2 (RD.lst (.inl ⟨hv, fun z => z.1 rfl⟩) (hd.le Kp.calm))
theorem Stp.old {K : PySem.W.Frag} {H0 H : Hp} {N0 N : Ns} {G0 G : Gp} (s : Stp K H0 N0 G0 H N G) (p : Addr) (h : G p ≠ none) : H0 p = none ∨ G0 p ≠ none := by
  cases e : H0 p with
  | none => exact .inl rfl
  | some u =>
    refine .inr fun n => h ?_
    exact (s.fr p u e n).2.1
def dRet (te : DE) : DS := fun D σ G => te σ G fun d G1 => ∃ d' G', Wk G1 d d' G' ∧ D.rt d' G'
theorem qs_ret (he : QE X e te) : QS X (.Return (some e) pos) (dRet te) := ps_mono (ps_ret he) fun D τ H h => by
  obtain ⟨σ, G, N, E, hs, hg, ht, q⟩ := h
  refine ⟨σ, G, N, _, hs, hg, ht, fun d G' N' v H' h s' r => ?_⟩
  obtain ⟨d', G2, w, h⟩ := h
  exact q.rt.wk s' r w h s'.old
def dRetN : DS := fun D _ G => ∃ G', Sub G' G ∧ D.rt .non G'
def dIfS (c : DT) (t u : DS) : DS := fun D σ G => c σ G fun b G1 => match b with | true => t D σ G1 | false => u D σ G1
theorem qs_if {c : Expr} {a b : List Stmt} {tc : DT} (hc : QT X c tc) (ha : QSs X a t) (hb : QSs X b u) : QS X (.If c a b pos) (dIfS tc t u) := ps_mono (ps_if hc ha hb) fun D τ H h => by
  obtain ⟨σ, G, N, E, hs, hg, ht, q⟩ := h
  refine ⟨σ, G, N, _, hs, hg, ht, fun b G1 N1 H1 h1 s1 => ?_⟩
  cases b with
  | true => rw [if_pos rfl]; exact ⟨σ, G1, N1, E, hs.le s1.kp, s1.rel, h1, q.le s1⟩
  | false => rw [if_neg Bool.false_ne_true]; exact ⟨σ, G1, N1, E, hs.le s1.kp, s1.rel, h1, q.le s1⟩
end
/-! ### targets -/
section
variable {X : Cx} {e : Expr} {te : DE} {pos : Pos}
def setAll (σ : Sd) : List Nat → List D → Sd
  | i :: is, d :: ds => setAll (σ.set i (some d)) is ds
  | _, _ => σ
def setAllV (σ : L2.St) : List Nat → List V → L2.St
  | i :: is, d :: ds => setAllV (σ.set i (some d)) is ds
  | _, _ => σ
theorem RSt.setAll {K : PySem.W.Frag} {H : Hp} {N : Ns} : ∀ (is : List Nat) {ds : List D} {vs : List V} {σ : Sd} {τ : L2.St}, RSt K H N σ τ → RDs K H N ds vs → RSt K H N (setAll σ is ds) (setAllV τ is vs)
  | [], _, _, _, _, h, _ => h
  | i :: is, [], _, _, _, h, r => by rw [r.of_nil]; exact h
  | i :: is, d :: ds, _, _, _, h, r => by
    obtain ⟨v, rr, rfl, r1, r2⟩ := r.of_cons
    exact RSt.setAll is (h.set r1 i) r2
/-- what a target does: by data, by values; the slots vs alone are changed -/
def TgOk (K : PySem.W.Frag) (vg : TG) (dg : DG) (ws : List Nat) : Prop :=
  ∀ (d : D) (v : V) (σ : Sd) (τ : L2.St) (H : Hp) (N : Ns) (G : Gp) (R : Sd → Gp → Prop) (Q : L2.St → Hp → Prop), RD K H N d v → RSt K H N σ τ → RelG K H N G → dg d σ G R →
    (∀ σ' τ', R σ' G → RSt K H N σ' τ' → wipe τ' ws = wipe τ ws → Q τ' H) → vg v τ H Q
theorem wipe_set {τ : L2.St} {i : Nat} {x : Option V} : ∀ {ws : List Nat}, i ∈ ws → wipe (τ.set i x) ws = wipe τ ws
  | [], h => by cases h
  | w :: ws, h => by
    unfold wipe
    by_cases e : i ∈ ws
    · rw [wipe_set e]
    · have e2 : i = w := by
        rcases List.mem_cons.mp h with h | h
        · exact h
        · exact absurd h e
      subst e2
      have aux : ∀ vs : List Nat, i ∉ vs → wipe (τ.set i x) vs = (wipe τ vs).set i x := by
        intro vs
        induction vs with
        | nil => intro _; rfl
        | cons v vs ih =>
          intro hv
          unfold wipe
          rw [ih (fun z => hv (List.mem_cons_of_mem _ z)), List.set_comm]
          exact fun z => hv (by rw [z]; exact List.mem_cons_self)
      rw [aux ws e, List.set_set]
def dName (i : Nat) : DG := fun d σ G R => R (σ.set i (some d)) G
theorem tg_name {K : PySem.W.Frag} {ws : List Nat} {i : Nat} (h : i ∈ ws) : TgOk K (gName i) (dName i) ws := fun d v σ τ H N G R Q rd rs rg h0 q => q _ _ h0 (rs.set rd i) (wipe_set h)
def gNames : List Nat → TGs
  | [] => gNil
  | i :: is => gCons (gName i) (gNames is)
theorem gNames_ok {Q : L2.St → Hp → Prop} : ∀ {is : List Nat} {vs : List V} {τ : L2.St} {H : Hp}, vs.length = is.length → Q (setAllV τ is vs) H → gNames is vs τ H Q
  | [], [], _, _, _, h => ⟨rfl, h⟩
  | [], _ :: _, _, _, e, _ => by simp at e
  | i :: is, [], _, _, e, _ => by simp at e
  | i :: is, v :: vs, τ, H, e, h => ⟨v, vs, rfl, gNames_ok (by simpa using e) h⟩
theorem wipe_setAll : ∀ {is : List Nat} {vs : List V} {τ : L2.St} {ws : List Nat}, (∀ i ∈ is, i ∈ ws) → wipe (setAllV τ is vs) ws = wipe τ ws
  | [], _, _, _, _ => by simp [setAllV]
  | i :: is, [], _, _, _ => by simp [setAllV]
  | i :: is, v :: vs, τ, ws, h => by
    rw [setAllV, wipe_setAll (fun j hj => h j (List.mem_cons_of_mem _ hj)), wipe_set (h i List.mem_cons_self)]
def dNames (is : List Nat) : DG := fun d σ G R => match d with | .tup ds => ds.length = is.length ∧ R (setAll σ is ds) G | _ => False
theorem tg_names {K : PySem.W.Frag} {ws is : List Nat} {n : Nat} (h : ∀ i ∈ is, i ∈ ws) (hn : is.length = n) : TgOk K (gTup K n (gNames is)) (dNames is) ws := fun d v σ τ H N G R Q rd rs rg h0 q => by
  unfold dNames at h0
  split at h0
  · rename_i ds
    obtain ⟨p, vs, rfl, sq, r⟩ := rd.of_tup
    have hl := r.length
    refine ⟨p, vs, rfl, sq, by omega, gNames_ok (by omega) ?_⟩
    exact q _ _ h0.2 (RSt.setAll is rs r) (wipe_setAll h)
  · exact h0.elim
/-- a target, by data -/
theorem qg_of {tg : Expr} {vg : TG} {dg : DG} {ws : List Nat} (h : PG X tg vg) (t : TgOk X.K vg dg ws) : QG X tg dg := pg_mono h fun v τ H Q h => by
  obtain ⟨d, σ, G, N, R, rd, rs, rg, h0, q⟩ := h
  exact t d v σ τ H N G R Q rd rs rg h0 fun σ' τ' h1 r1 _ => q _ _ _ _ _ h1 (Stp.refl rg) r1
/-- name = value -/
def dAsg (te : DE) (g : DG) : DS := fun D σ G => te σ G fun x G1 => g x σ G1 D.nx
theorem upS_asg {K : PySem.W.Frag} {g : DG} {D : Ends} {τ : L2.St} {H : Hp} (h : upS K (dAsg te g) D τ H) : tAsg (up K te) (upG K g) D τ H := by
  obtain ⟨σ, G, N, E, hs, hg, ht, q⟩ := h
  refine ⟨σ, G, N, _, hs, hg, ht, fun d G' N' v H' h s' r => ?_⟩
  exact ⟨d, σ, G', N', _, r, hs.le s'.kp, s'.rel, h, fun σ2 G2 N2 τ2 H2 h2 s2 r2 => q.nx _ _ _ _ _ h2 (s'.trans s2) r2⟩
theorem qs_set {i : Nat} {x : Str} {pos' : Pos} (hN : X.N.Nodup) (hi : X.N[i]? = some x) (hx : Loc X.env.scope x) (he : QE X e te) (hs : swapsWith e (some (.Name x pos')) pos.line X.env = pure false := by rfl) (hf : X.fn x = true ∨ X.env.scope.names.lookup x = some .local := by first | exact .inl rfl | exact .inr rfl | assumption) :
    QS X (.Assign [.Name x pos'] e pos) (dAsg te (dName i)) := ps_mono (ps_set hN hi hx he hs hf) fun D τ H h => by
  obtain ⟨σ, G, N, E, hs, hg, ht, q⟩ := h
  refine ⟨σ, G, N, _, hs, hg, ht, fun d G' N' v H' h s' r => ?_⟩
  exact q.nx _ _ _ _ _ h s' ((hs.le s'.kp).set r i)
theorem qs_asg {tg : Expr} {g : DG} (he : QE X e te) (hg : QG X tg g) (hs : swapsWithSole [tg] e pos.line X.env = pure false := by rfl) (hw : swappedStores [tg] e X.env = pure none := by rfl)
    (h1 : (assignEach [tg] X.env).map (·.2) = [assign tg X.env] := by rfl) : QS X (.Assign [tg] e pos) (dAsg te g) := ps_mono (ps_asg he hg hs hw h1) fun D τ H h => upS_asg h
/-- o[i] = .. , by data -/
abbrev DSet := D → D → D → Gp → (Gp → Prop) → Prop
def upSet (K : PySem.W.Frag) (r : DSet) : TSet := fun o i v H Q => ∃ c d e G N R, RD K H N c o ∧ RD K H N d i ∧ RD K H N e v ∧ RelG K H N G ∧ r c d e G R ∧ ∀ G' N' H', R G' → Stp K H N G H' N' G' → Q H'
def SetD (X : Cx) (r : DSet) : Prop := PSet X (upSet X.K r)
def dSub (to ti : DE) (r : DSet) : DG := fun v σ G R => to σ G fun o G1 => ti σ G1 fun i G2 => r o i v G2 fun G3 => R σ G3
theorem qg_sub {o i : Expr} {to ti : DE} {r : DSet} (ho : QE X o to) (hi : QE X i ti) (hs : SetD X r)
    (ha : ∀ v, assign (.Subscript o i pos) X.env v = (do
      let ov ← holding [v] (eval o X.env)
      let iv ← holding [v, ov] (eval i X.env)
      standAt pos
      holding [v, ov, iv] (setItem ov iv v)
      release [v, ov, iv] []) := by intro _; rfl) : QG X (.Subscript o i pos) (dSub to ti r) := pg_mono (pg_sub ho hi hs ha) fun v τ H Q h => by
  obtain ⟨d, σ, G, N, R, rd, rs, rg, h0, q⟩ := h
  refine ⟨σ, G, N, _, rs, rg, h0, fun x G1 N1 v1 H1 h1 s1 r1 => ?_⟩
  refine ⟨σ, G1, N1, _, rs.le s1.kp, s1.rel, h1, fun y G2 N2 v2 H2 h2 s2 r2 => ?_⟩
  exact ⟨x, y, d, G2, N2, _, r1.le s2.kp, r2, (rd.le s1.kp).le s2.kp, s2.rel, h2, fun G3 N3 H3 h3 s3 => q _ _ _ _ _ h3 ((s1.trans s2).trans s3) (((rs.le s1.kp).le s2.kp).le s3.kp)⟩
/-- name op= e -/
def dAug (i : Nat) (te : DE) (r : DR2) : DS := fun D σ G => match σ[i]? with | some (some x) => te σ G fun y G1 => r x y G1 fun z G2 => D.nx (σ.set i (some z)) G2 | _ => False
theorem qs_aug {i : Nat} {x : Str} {op : Operator} {r : DR2} {pos' : Pos} (hN : X.N.Nodup) (hi : X.N[i]? = some x) (hx : Loc X.env.scope x) (he : QE X e te) (ho : OpD X (inplaceOp op) r) (hf : X.fn x = true ∨ X.env.scope.names.lookup x = some .local := by first | exact .inl rfl | exact .inr rfl | assumption) :
    QS X (.AugAssign (.Name x pos') op e pos) (dAug i te r) := ps_mono (ps_aug (ti := upR2 X.K r) hN hi hx he (fun pins s σ H x y v u Q I r1 r2 q => ho pins s σ H x y v u Q I r1 r2 q) hf) fun D τ H h => by
  obtain ⟨σ, G, N, E, hs, hg, ht, q⟩ := h
  unfold dAug at ht
  split at ht
  · rename_i d ed
    obtain ⟨v, h1, h2⟩ := hs.2 i d ed
    refine ⟨v, h1, σ, G, N, _, hs, hg, ht, fun y G1 N1 v1 H1 h3 s1 r1 => ?_⟩
    exact ⟨d, y, G1, N1, _, h2.le s1.kp, r1, s1.rel, h3, fun z G2 N2 v2 H2 h4 s2 r4 => q.nx _ _ _ _ _ h4 (s1.trans s2) (((hs.le s1.kp).le s2.kp).set r4 i)⟩
  · exact ht.elim
def dAugS (to ti te : DE) (rg rp : DR2) (rs : DSet) : DS := fun D σ G => to σ G fun o G1 => ti σ G1 fun i G2 => rg o i G2 fun x G3 => te σ G3 fun y G4 => rp x y G4 fun z G5 => rs o i z G5 fun G6 => D.nx σ G6
end
/-! ### while -/
section
variable {X : Cx} {pos : Pos}
def dWhN (c : DT) (tb : DS) (D : DEnds) : Nat → Sd → Gp → Prop
  | 0, _, _ => False
  | n + 1, σ, G => c σ G fun b G1 => match b with | true => tb { D with nx := dWhN c tb D n, ct := dWhN c tb D n, bk := D.nx } σ G1 | false => D.nx σ G1
def dWhile (c : DT) (tb : DS) : DS := fun D σ G => ∃ n, dWhN c tb D n σ G
theorem qs_while {c : Expr} {body : List Stmt} {tc : DT} {tb : DS} (hp : PassesOwn (model X.prog X.w) X.A X.env X.xe) (hc : QT X c tc) (hb : QSs X body tb) : QS X (.While c body [] pos) (dWhile tc tb) := ps_mono (ps_while hp hc hb) fun D τ H h => by
  obtain ⟨σ, G, N, E, hs, hg, ⟨n, ht⟩, q⟩ := h
  refine ⟨fun m τ' H' => ∃ σ' G' N', RSt X.K H' N' σ' τ' ∧ Stp X.K H N G H' N' G' ∧ dWhN tc tb E m σ' G', ⟨n, σ, G, N, hs, Stp.refl hg, ht⟩, ?_⟩
  rintro m τ1 H1 ⟨σ1, G1, N1, r1, s1, h1⟩
  cases m with
  | zero => exact h1.elim
  | succ m =>
    refine ⟨σ1, G1, N1, _, r1, s1.rel, h1, fun b G2 N2 H2 h2 s2 => ?_⟩
    cases b with
    | true =>
      rw [if_pos rfl]
      refine ⟨fun τ' H' => ∃ σ' G' N', RSt X.K H' N' σ' τ' ∧ Stp X.K H N G H' N' G' ∧ dWhN tc tb E m σ' G', fun τ' H' z => ⟨m, Nat.lt_succ_self m, z⟩, ?_⟩
      have s12 := s1.trans s2
      refine ⟨σ1, G2, N2, _, r1.le s2.kp, s2.rel, h2, ⟨fun σ' G' N' τ' H' h s' r => ⟨σ', G', N', r, s12.trans s', h⟩, (q.le s12).rt, fun σ' G' N' τ' H' h s' r => q.nx _ _ _ _ _ h (s12.trans s') r, fun σ' G' N' τ' H' h s' r => ⟨σ', G', N', r, s12.trans s', h⟩⟩⟩
    | false =>
      rw [if_neg Bool.false_ne_true]
      exact q.nx _ _ _ _ _ h2 (s1.trans s2) (r1.le s2.kp)
end
/-! ### what is walked -/
abbrev DI := Sd → Gp → (List D → (Gp → Prop) → Gp → Prop) → Prop
/-- J yields the things xs, one behind the other, wherever gd holds of what is known -/
structure Yl (K : PySem.W.Frag) (J : It) (H0 : Hp) (N0 : Ns) (G0 : Gp) (xs : List D) (gd : Gp → Prop) : Prop where
  go : ∀ i H N G d, Stp K H0 N0 G0 H N G → gd G → xs[i]? = some d → J.go i H ∧ ∀ x H', J.yld i H x H' → Stp K H N G H' N G ∧ RD K H' N d x
  stop : ∀ i H N G, Stp K H0 N0 G0 H N G → gd G → xs.length = i → J.stop i H
theorem Yl.of {K : PySem.W.Frag} {J : It} {H0 : Hp} {N0 : Ns} {G0 : Gp} {xs : List D} {gd : Gp → Prop} (go : ∀ i H N G d, Stp K H0 N0 G0 H N G → gd G → xs[i]? = some d → J.go i H ∧ ∀ x H', J.yld i H x H' → Stp K H N G H' N G ∧ RD K H' N d x)
    (stop : ∀ i H N G, Stp K H0 N0 G0 H N G → gd G → xs.length ≤ i → J.stop i H) : Yl K J H0 N0 G0 xs gd := ⟨go, fun i H N G s g e => stop i H N G s g (Nat.le_of_eq e)⟩
def upI (K : PySem.W.Frag) (ti : DI) : TI := fun τ H R => ∃ σ G N R', RSt K H N σ τ ∧ RelG K H N G ∧ ti σ G R' ∧ ∀ xs gd G' N' J H', R' xs gd G' → Stp K H N G H' N' G' → Yl K J H' N' G' xs gd → R J H'
def QI (X : Cx) (tg iter : Expr) (ti : DI) : Prop := PI X tg iter (upI X.K ti)
theorem pi_mono {X : Cx} {tg e : Expr} {t t' : TI} (h : PI X tg e t) (i : ∀ τ H Q, t' τ H Q → t τ H Q) : PI X tg e t' := ⟨fun pins s σ H Q I q => h.run pins s σ H Q I (i σ H Q q)⟩
def dForGo (g : DG) (tb : DS) (gd : Gp → Prop) (E : DEnds) : List D → Sd → Gp → Prop
  | [], σ, G => gd G ∧ E.nx σ G
  | x :: xs, σ, G => gd G ∧ g x σ G fun σ2 G2 => tb { E with nx := dForGo g tb gd E xs, ct := dForGo g tb gd E xs, bk := E.nx } σ2 G2
def dFor (ti : DI) (g : DG) (tb : DS) : DS := fun D σ G => ti σ G fun xs gd G1 => dForGo g tb gd D xs σ G1
section
variable {X : Cx} {tg : Expr} {pos : Pos}
theorem qs_for {iter : Expr} {body : List Stmt} {ti : DI} {g : DG} {tb : DS} (hp : PassesOwn (model X.prog X.w) X.A X.env X.xe) (hc : X.calm = true) (hi : QI X tg iter ti) (hg : QG X tg g) (hb : QSs X body tb)
    (hs : ∀ x, foldedSetIterable iter X.env x = pure x := by intro _; rfl) : QS X (.For tg iter body [] pos) (dFor ti g tb) := ps_mono (ps_for hp hc hi hg hb hs) fun D τ H h => by
  obtain ⟨σ, G, N, E, hs, hg, ht, q⟩ := h
  refine ⟨σ, G, N, _, hs, hg, ht, fun xs gd G1 N1 J H1 h1 s1 y => ?_⟩
  refine ⟨fun i m τ' H' => m = xs.length - i ∧ i ≤ xs.length ∧ ∃ σ' G' N', RSt X.K H' N' σ' τ' ∧ Stp X.K H1 N1 G1 H' N' G' ∧ dForGo g tb gd E (xs.drop i) σ' G', ⟨xs.length, rfl, Nat.zero_le _, σ, G1, N1, hs.le s1.kp, Stp.refl s1.rel, h1⟩, ?_⟩
  rintro i m τ2 H2 ⟨rfl, hi, σ2, G2, N2, r2, s2, h2⟩
  by_cases hlt : i < xs.length
  · rw [List.drop_eq_getElem_cons hlt] at h2
    obtain ⟨hgd, h2⟩ := h2
    obtain ⟨go, yld⟩ := y.go i H2 N2 G2 xs[i] s2 hgd (List.getElem?_eq_getElem hlt)
    refine .inr ⟨go, fun τ' H' => ∃ σ' G' N', RSt X.K H' N' σ' τ' ∧ Stp X.K H1 N1 G1 H' N' G' ∧ dForGo g tb gd E (xs.drop (i + 1)) σ' G', fun τ' H' z => ⟨xs.length - (i + 1), by omega, rfl, hlt, z⟩, fun x H3 hy => ?_⟩
    obtain ⟨s3, r3⟩ := yld x H3 hy
    refine ⟨xs[i], σ2, G2, N2, _, r3, r2.le s3.kp, s3.rel, h2, fun σ4 G4 N4 τ4 H4 h4 s4 r4 => ?_⟩
    have s14 := (s2.trans s3).trans s4
    refine ⟨σ4, G4, N4, _, r4, s4.rel, h4, ⟨fun σ' G' N' τ' H' h s' r => ⟨σ', G', N', r, s14.trans s', h⟩, (q.le (s1.trans s14)).rt, fun σ' G' N' τ' H' h s' r => q.nx _ _ _ _ _ h ((s1.trans s14).trans s') r, fun σ' G' N' τ' H' h s' r => ⟨σ', G', N', r, s14.trans s', h⟩⟩⟩
  · have e : i = xs.length := by omega
    subst e
    rw [List.drop_length] at h2
    exact .inl ⟨y.stop _ H2 N2 G2 s2 h2.1 rfl, q.nx _ _ _ _ _ h2.2 (s1.trans s2) r2⟩
end
/-! ### comprehensions -/
def wipeD (σ : Sd) : List Nat → Sd
  | [] => σ
  | v :: vs => (wipeD σ vs).set v none
theorem RSt.wipe {K : PySem.W.Frag} {H : Hp} {N : Ns} {σ : Sd} {τ : L2.St} (h : RSt K H N σ τ) : ∀ vs : List Nat, RSt K H N (wipeD σ vs) (L2.wipe τ vs)
  | [] => h
  | v :: vs => by
    have ih := RSt.wipe h vs
    unfold wipeD L2.wipe
    refine ⟨by rw [List.length_set, List.length_set]; exact ih.1, fun i d e => ?_⟩
    by_cases hj : v = i
    · subst hj
      rw [List.getElem?_set] at e
      simp only [if_true] at e
      split at e
      · cases e
      · cases e
    · rw [List.getElem?_set_ne hj] at e ⊢
      exact ih.2 i d e
def dLcGo (g : DG) (tt : DT) (te : DE) (gd : Gp → Prop) (σ : Sd) : List D → List D → Gp → (List D → Gp → Prop) → Prop
  | [], acc, G, Q => gd G ∧ Q acc G
  | x :: xs, acc, G, Q => gd G ∧ g x σ G fun σ2 G2 => tt σ2 G2 fun b G3 => match b with
    | true => te σ2 G3 fun y G4 => dLcGo g tt te gd σ xs (acc ++ [y]) G4 Q
    | false => dLcGo g tt te gd σ xs acc G3 Q
def dLc (mk : Bool) (ti : DI) (g : DG) (tt : DT) (te : DE) (ws : List Nat) : DE := fun σ G R => ti σ G fun xs gd G1 => xs.length ≤ sizeLine ∧ dLcGo g tt te gd (wipeD σ ws) xs [] G1 fun ds G2 => newL mk ds G2 R
def QTs (X : Cx) (ifs : List Expr) (t : DT) : Prop := PTs X ifs (upT X.K t)
def dYes : DT := fun _ G R => R true G
theorem qts_nil {X : Cx} : QTs X [] dYes := ⟨fun pins s σ H Q I h => (pts_nil (X := X)).run pins s σ H Q I (by
  obtain ⟨σ', G, N, R, hs, hg, ht, q⟩ := h
  exact q _ _ _ _ ht (Stp.refl hg))⟩
theorem up_lc {K : PySem.W.Frag} {mk : Bool} {ti : DI} {vg : TG} {g : DG} {tt : DT} {te : DE} {ws : List Nat} (tgo : TgOk K vg g ws) {τ : L2.St} {H : Hp} {Q : VK} (h : up K (dLc mk ti g tt te ws) τ H Q) : tLc (upI K ti) vg (upT K tt) (up K te) ws τ H Q := by
  obtain ⟨σ, G, N, R, hs, hg, ht, q⟩ := h
  refine ⟨σ, G, N, _, hs, hg, ht, fun xs gd G1 N1 J H1 h1 s1 y => ?_⟩
  obtain ⟨hlen, h1⟩ := h1
  intro p np
  have q1 := q.le s1
  let Q' : List D → Gp → Prop := fun ds G2 => newL mk ds G2 R
  refine ⟨fun i m H' => m = xs.length - i ∧ i ≤ xs.length ∧ ∃ acc vacc G' N', H' p = some (.lst vacc) ∧ RDs K H' N' acc vacc ∧ acc.length ≤ i ∧ G' p = none ∧ N' p ∧ Stp K H1 N1 G1 H' N' G' ∧ dLcGo g tt te gd (wipeD σ ws) (xs.drop i) acc G' Q',
    ⟨xs.length, rfl, Nat.zero_le _, [], [], G1, nadd N1 p, upd_same, RDs.nil, Nat.zero_le _, s1.rel.free np, .inl rfl, ?_, h1⟩, ?_⟩
  · refine ⟨Kp.new np, fun q x e n => ⟨by rw [upd_ne (ne_of_none e np)]; exact e, n, .inr⟩, fun a o' e => ?_⟩
    obtain ⟨x, hx, _⟩ := (s1.rel a o' e).2.here
    exact ⟨.inr (s1.rel a o' e).1, (s1.rel a o' e).2.le (Kp.new np) (upd_ne (ne_of_none hx np))⟩
  rintro i m H2 ⟨rfl, hi, acc, vacc, G2, N2, hp2, ra2, hal, gp2, nn2, s2, h2⟩
  by_cases hlt : i < xs.length
  · rw [List.drop_eq_getElem_cons hlt] at h2
    obtain ⟨hgd, h2⟩ := h2
    obtain ⟨go, yld⟩ := y.go i H2 N2 G2 xs[i] s2 hgd (List.getElem?_eq_getElem hlt)
    refine .inr ⟨go, fun H' => ∃ acc vacc G' N', H' p = some (.lst vacc) ∧ RDs K H' N' acc vacc ∧ acc.length ≤ i + 1 ∧ G' p = none ∧ N' p ∧ Stp K H1 N1 G1 H' N' G' ∧ dLcGo g tt te gd (wipeD σ ws) (xs.drop (i + 1)) acc G' Q', fun H' z => ⟨xs.length - (i + 1), by omega, rfl, hlt, z⟩, fun x H3 hy => ?_⟩
    obtain ⟨s3, r3⟩ := yld x H3 hy
    have rw3 : RSt K H3 N2 (wipeD σ ws) (L2.wipe τ ws) := (((hs.le s1.kp).le s2.kp).le s3.kp).wipe ws
    refine tgo xs[i] x (wipeD σ ws) (L2.wipe τ ws) H3 N2 G2 _ _ r3 rw3 s3.rel h2 fun σ4 τ4 h4 r4 w4 => ⟨?_, ?_⟩
    · rw [w4]
      have aux : ∀ (us vs : List Nat), (∀ v ∈ us, v ∈ vs) → L2.wipe (L2.wipe τ vs) us = L2.wipe τ vs := by
        intro us
        induction us with
        | nil => intro vs _; rfl
        | cons u us ih =>
          intro vs hv
          show (L2.wipe (L2.wipe τ vs) us).set u none = _
          rw [ih vs (fun v hv' => hv v (List.mem_cons_of_mem _ hv'))]
          have hm := hv u List.mem_cons_self
          apply List.ext_getElem?
          intro j
          by_cases hj : u = j
          · subst hj
            rw [List.getElem?_set]
            simp only [if_true]
            have hn : ∀ x, (L2.wipe τ vs)[u]? ≠ some (some x) := fun x e => (wipe_some e).2 hm
            split
            · rename_i hlt'
              rw [List.getElem?_eq_getElem hlt'] at hn ⊢
              cases e : (L2.wipe τ vs)[u] with
              | none => rfl
              | some z => exact absurd (by rw [e]) (hn z)
            · rename_i hge
              rw [List.getElem?_eq_none (by omega)]
          · rw [List.getElem?_set_ne hj]
      exact aux ws ws fun v h => h
    · refine ⟨σ4, G2, N2, _, r4, s3.rel, h4, fun b G5 N5 H5 h5 s5 => ?_⟩
      obtain ⟨hp3, gp3, _⟩ := s3.fr p _ hp2 gp2
      obtain ⟨hp5, gp5, nn5⟩ := s5.fr p _ hp3 gp3
      have s25 := (s2.trans s3).trans s5
      cases b with
      | false =>
        rw [if_neg Bool.false_ne_true]
        exact ⟨acc, vacc, G5, N5, hp5, (ra2.le s3.kp).le s5.kp, by omega, gp5, nn5 nn2, s25, h5⟩
      | true =>
        rw [if_pos rfl]
        refine ⟨σ4, G5, N5, _, r4.le s5.kp, s5.rel, h5, fun d G6 N6 v6 H6 h6 s6 r6 => ?_⟩
        obtain ⟨hp6, gp6, nn6⟩ := s6.fr p _ hp5 gp5
        have s26 := s25.trans s6
        have ra6 := ((ra2.le s3.kp).le s5.kp).le s6.kp
        have kw := Kp.write (u := .lst (vacc ++ [v6])) (nn6 (nn5 nn2)) hp6 rfl rfl
        have hl6 := ra6.length
        refine ⟨vacc, hp6, by omega, acc ++ [d], vacc ++ [v6], G6, N6, upd_same, (RDs.append ra6 (RDs.cons r6 RDs.nil)).le kw, by simp; omega, gp6, nn6 (nn5 nn2), s26.poke np hp6 gp6 (nn6 (nn5 nn2)) rfl rfl, h6⟩
  · have e : i = xs.length := by omega
    subst e
    rw [List.drop_length] at h2
    refine .inl ⟨y.stop _ H2 N2 G2 s2 h2.1 rfl, ?_⟩
    have h3 : newL mk acc G2 R := h2.2
    cases mk with
    | true =>
      refine q1 (.ref p) (gup G2 p (.lst acc)) N2 _ _ (h3 p gp2) (s2.know np nn2 ⟨vacc, hp2, ra2⟩) (RD.ref p)
    | false =>
      exact q1 (.lst acc) G2 (ndel N2 p) _ _ h3 (s2.calm (.inl np) gp2) (RD.lst (.inl ⟨hp2, fun z => z.1 rfl⟩) (ra2.le Kp.calm))
section
variable {X : Cx}
theorem qe_lc (mk : Bool) {elt tg iter : Expr} {ifs : List Expr} {scope : Scope} {own : List (Str × Nat)} {pos : Pos} {ti : DI} {vg : TG} {g : DG} {tt : DT} {te : DE} (hc : X.calm = true) (hN : X.N.Nodup) (hi : QI X tg iter ti) (ok : BlkOk X.N X.env.scope scope own)
    (hg : ∀ (s : Shared) (H : Hp) (C : Addr) (cl : List (Str × Addr)) (fp : List Addr), PG (X.blk s H scope (compEnvC scope cl C X.env) fp) tg vg) (tgo : TgOk X.K vg g (own.map (·.2)))
    (ht : ∀ (s : Shared) (H : Hp) (C : Addr) (cl : List (Str × Addr)) (fp : List Addr), QTs (X.blk s H scope (compEnvC scope cl C X.env) fp) ifs tt)
    (he : ∀ (s : Shared) (H : Hp) (C : Addr) (cl : List (Str × Addr)) (fp : List Addr), QE (X.blk s H scope (compEnvC scope cl C X.env) fp) elt te) (hs : ∀ x, foldedSetIterable iter X.env x = pure x := by intro _; rfl) :
    QE X (.ListComp elt [⟨tg, iter, ifs, 0⟩] scope pos) (dLc mk ti g tt te (own.map (·.2))) :=
  pe_mono (pe_lc (wi := upI X.K ti) (tt := upT X.K tt) (te := up X.K te) hc hN hi ok hg ht he hs) fun τ H Q h => up_lc tgo h
theorem qs_setLc (mk : Bool) {i : Nat} {y : Str} {py : Pos} {elt tg iter : Expr} {ifs : List Expr} {scope : Scope} {own : List (Str × Nat)} {pos spos : Pos} {ti : DI} {vg : TG} {g : DG} {tt : DT} {te : DE} (hc : X.calm = true) (hN : X.N.Nodup) (hy : X.N[i]? = some y) (hyl : X.env.scope.names.lookup y = some .local)
    (hsw : swapsWith (.ListComp elt [⟨tg, iter, ifs, 0⟩] scope pos) (some (.Name y py)) spos.line X.env = pure true) (hi : QI X tg iter ti) (ok : BlkOk X.N X.env.scope scope own)
    (hg : ∀ (s : Shared) (H : Hp) (C : Addr) (cl : List (Str × Addr)) (fp : List Addr), PG (X.blk s H scope (compEnvC scope cl C X.env) fp) tg vg) (tgo : TgOk X.K vg g (own.map (·.2)))
    (ht : ∀ (s : Shared) (H : Hp) (C : Addr) (cl : List (Str × Addr)) (fp : List Addr), QTs (X.blk s H scope (compEnvC scope cl C X.env) fp) ifs tt)
    (he : ∀ (s : Shared) (H : Hp) (C : Addr) (cl : List (Str × Addr)) (fp : List Addr), QE (X.blk s H scope (compEnvC scope cl C X.env) fp) elt te) (hs : ∀ x, foldedSetIterable iter X.env x = pure x := by intro _; rfl) :
    QS X (.Assign [.Name y py] (.ListComp elt [⟨tg, iter, ifs, 0⟩] scope pos) spos) (dAsg (dLc mk ti g tt te (own.map (·.2))) (dName i)) :=
  ps_mono (ps_setLc (wi := upI X.K ti) (tt := upT X.K tt) (te := up X.K te) hc hN hy hyl hsw hi ok hg ht he hs) fun D τ H h => by
    obtain ⟨σ, G, N, E, hs, hg, ht, q⟩ := h
    refine up_lc tgo ⟨σ, G, N, _, hs, hg, ht, fun d G' N' v H' h s' r => ?_⟩
    exact q.nx _ _ _ _ _ h s' ((hs.le s'.kp).set r i)
end
/-! ### defs -/
abbrev DSp := List D → Gp → DK → Prop
def upSp (K : PySem.W.Frag) (sp : DSp) : Sp := fun vs H Q _ => ∃ ds G N R, RDs K H N ds vs ∧ RelG K H N G ∧ sp ds G R ∧ UpQ K H N G R Q
/-- the def at f keeps the promise sp, by data; no exception leaves it -/
def FnD (P : Program) (w : World) (K : PySem.W.Frag) (mg : Str → Option Value) (base : Heap) (k : Nat) (f : Addr) (fd : FuncData) (ps : List Str) (sp : DSp) : Prop := FnOk P w K mg base CX0 k f fd ps (upSp K sp)
theorem FnD.mono {P : Program} {w : World} {K : PySem.W.Frag} {mg : Str → Option Value} {base : Heap} {j k : Nat} {f : Addr} {fd : FuncData} {ps : List Str} {sp : DSp} (F : FnD P w K mg base j f fd ps sp) (h : j ≤ k) : FnD P w K mg base k f fd ps sp := FnOk.mono F h
theorem FnD.imp {P : Program} {w : World} {K : PySem.W.Frag} {mg : Str → Option Value} {base : Heap} {k : Nat} {f : Addr} {fd : FuncData} {ps : List Str} {sp sp' : DSp} (F : FnD P w K mg base k f fd ps sp) (h : ∀ ds G R, sp' ds G R → sp ds G R) : FnD P w K mg base k f fd ps sp' :=
  FnOk.imp F fun vs H Q E ⟨ds, G, N, R, r1, r2, h1, q⟩ => ⟨ds, G, N, R, r1, r2, h ds G R h1, q⟩
def startD (n : Nat) (ds : List D) : Sd := ds.map some ++ List.replicate (n - ds.length) none
theorem RSt.begin {K : PySem.W.Frag} {H : Hp} {N : Ns} {M : List Str} {ds : List D} {vs : List V} (r : RDs K H N ds vs) : RSt K H N (startD M.length ds) (start M vs) := by
  have hl := r.length
  refine ⟨by unfold startD L2.start; simp; omega, fun i d e => ?_⟩
  unfold startD at e
  by_cases hi : i < ds.length
  · rw [List.getElem?_append_left (by simpa using hi), List.getElem?_map, List.getElem?_eq_getElem hi] at e
    have e' : ds[i] = d := by simpa using e
    obtain ⟨v, h1, h2⟩ := r.get (List.getElem?_eq_getElem hi)
    refine ⟨v, ?_, by rw [← e']; exact h2⟩
    unfold L2.start
    rw [List.getElem?_append_left (by rw [List.length_map]; omega), List.getElem?_map, h1]
    rfl
  · rw [List.getElem?_append_right (by simpa using hi), List.getElem?_replicate] at e
    split at e
    · cases e
    · cases e
section
variable {P : Program} {w : World} {K : PySem.W.Frag} {mg : Str → Option Value} {base : Heap}
theorem fun_okD {x qual : Str} {st : Stmt} {f : Addr} {fd : FuncData} {M ps : List Str} {k : Nat} {sp : DSp} (F : Fun K x qual st f fd) (S : FnScope M ps (defScope st)) (len : ∀ ds G R, sp ds G R → ds.length = ps.length)
    (hbody : ∀ (cdv : Value) (A : Around) (outer : List Env) (s : Shared) (H : Hp), Room k (A.deeper (envOfC qual (defScope st) s.heap.objs.size f cdv)) →
      ∃ t, QSs (cxOf CX0 P w K mg base M qual (defScope st) f cdv A outer s H E0).nox (defBody st) t ∧ ∀ (ds : List D) (G : Gp) (R : DK), sp ds G R → t { nx := fun _ G1 => ∃ G', Sub G' G1 ∧ R .non G', rt := R } (startD M.length ds) G) : FnD P w K mg base (k + 1) f fd ps sp := by
  refine F.ok S (fun vs H Q E h => ?_) (fun cdv A outer s H vs Q E hr h => ?_)
  · obtain ⟨ds, G, N, R, r1, _, h1, _⟩ := h
    rw [← r1.length]; exact len ds G R h1
  · obtain ⟨ds, G, N, R, r1, r2, h1, q⟩ := h
    obtain ⟨t, ht, hq⟩ := hbody cdv A outer s H hr
    refine ⟨upS K t, ht, startD M.length ds, G, N, _, RSt.begin r1, r2, hq ds G R h1, ⟨fun σ' G' N' τ' H' h s' r => ?_, q, fun _ _ _ _ _ h => h.elim, fun _ _ _ _ _ h => h.elim⟩⟩
    obtain ⟨G2, sb, h⟩ := h
    exact q _ _ _ _ _ h (s'.trans (s'.rel.sub sb)) RD.non
end
section
variable {X : Cx} {k : Nat} {f : Addr} {fd : FuncData} {ps : List Str} {sp : DSp} {x : Str} {p pos : Pos} {e : Expr} {es : List Expr} {t : DA}
def dCall (sp : DSp) (t : DA) : DE := fun σ G R => t σ G fun ds G1 => sp ds G1 R
theorem up_call {K : PySem.W.Frag} {τ : L2.St} {H : Hp} {Q : VK} (h : up K (dCall sp t) τ H Q) : tCall (upSp K sp) [] E0 (upA K t) τ H Q := by
  obtain ⟨σ, G, N, R, hs, hg, ht, q⟩ := h
  refine ⟨σ, G, N, _, hs, hg, ht, fun ds G1 N1 vs H1 h1 s1 r1 => ?_⟩
  show upSp K sp (vs ++ []) H1 Q E0
  rw [List.append_nil]
  exact ⟨ds, G1, N1, R, r1, s1.rel, h1, q.le s1⟩
theorem qe_call (F : FnD X.prog X.w X.K X.mg X.base k f fd ps sp) (hr : Room k X.A) (hg : Gl X x) (hm : X.mg x = some (.ref f)) (hk : PySem.W.keepIn X.K (.ref f) = true) (hb : Binds X.K fd ps []) (ha : QA X (e :: es) t)
    (hdb : (x == ("__debug__" : Str)) = false := by decide) (he : starEach (e :: es) X.env = (false, eval e X.env) :: starEach es X.env := by rfl) (hpl : (backTo pos (starEach es X.env)).any (·.1) = false := by rfl) :
    QE X (.Call (.Name x p) (e :: es) [] pos) (dCall sp t) := pe_mono (pe_call F hr hg hm hk hb .nil pass0 ha hdb he hpl) fun τ H Q h => up_call h
theorem up_cb {K : PySem.W.Frag} {r : DRn} {τ : L2.St} {H : Hp} {Q : VK} (h : up K (dCallB r t) τ H Q) : tCB (upRn K r) (upA K t) τ H Q := by
  obtain ⟨σ, G, N, R, hs, hg, ht, q⟩ := h
  refine ⟨σ, G, N, _, hs, hg, ht, fun ds G1 N1 vs H1 h1 s1 r1 => ?_⟩
  exact ⟨ds, G1, N1, R, r1, s1.rel, h1, q.le s1⟩
theorem qe_callB {id : String} {r : DRn} (hc : CallD X (.builtin id) r) (hg : Gl X x) (hm : X.mg x = none) (hv : bootBuiltins x = some (.builtin id)) (ha : QA X (e :: es) t) (hn : x ≠ "__name__" := by decide) (hdb : (x == ("__debug__" : Str)) = false := by decide)
    (he : starEach (e :: es) X.env = (false, eval e X.env) :: starEach es X.env := by rfl) (hpl : (backTo pos (starEach es X.env)).any (·.1) = false := by rfl) : QE X (.Call (.Name x p) (e :: es) [] pos) (dCallB r t) :=
  pe_mono (pe_callB hc hg hm hv ha hn hdb he hpl) fun τ H Q h => up_cb h
theorem qe_callTy {id : String} {r : DRn} (hc : CallD X (.type id) r) (hg : Gl X x) (hm : X.mg x = none) (hv : bootBuiltins x = some (.type id)) (ha : QA X (e :: es) t) (hn : x ≠ "__name__" := by decide) (hdb : (x == ("__debug__" : Str)) = false := by decide)
    (he : starEach (e :: es) X.env = (false, eval e X.env) :: starEach es X.env := by rfl) (hpl : (backTo pos (starEach es X.env)).any (·.1) = false := by rfl) : QE X (.Call (.Name x p) (e :: es) [] pos) (dCallB r t) :=
  pe_mono (pe_callTy hc hg hm hv ha hn hdb he hpl) fun τ H Q h => up_cb h
end
end DL

set_option Elab.async false
set_option linter.all false
set_option maxRecDepth 100000
set_option maxHeartbeats 4000000
set_option autoImplicit false
namespace DL
open PySem PySem.Spec PyProof.Rows L2

/-! ### lists by data -/
def lstOf (G : Gp) : D → Option (List D)
  | .lst ds => some ds
  | .ref a => match G a with | some (.lst ds) => some ds | _ => none
  | _ => none
theorem lstOf_ok {K : PySem.W.Frag} {H : Hp} {N : Ns} {G : Gp} {d : D} {v : V} {ds : List D} (rg : RelG K H N G) (rd : RD K H N d v) (h : lstOf G d = some ds) : ∃ p vs, v = .ref p ∧ SqL K H p vs ∧ RDs K H N ds vs := by
  cases d with
  | lst es =>
    obtain ⟨p, vs, rfl, l, r⟩ := rd.of_lst
    cases h
    exact ⟨p, vs, rfl, l.sq, r⟩
  | ref a =>
    obtain rfl := rd.of_ref
    unfold lstOf at h
    simp only at h
    split at h
    · rename_i es e
      cases h
      obtain ⟨_, vs, hv, r⟩ := rg a _ e
      exact ⟨a, vs, rfl, SqL.of hv, r⟩
    · cases h
  | _ => cases h
section
variable {X : Cx}
/-! ### list + list, whatever lists -/
def rCatL (K : PySem.W.Frag) : R2 := fun x y H Q => ∃ l b xs zs, x = .ref l ∧ y = .ref b ∧ SqL K H l xs ∧ SqL K H b zs ∧ xs.length + zs.length ≤ sizeLine ∧ ∀ p, H p = none → Q (.ref p) (upd H p (.lst (xs ++ zs)))
theorem op_catL : OpR X (binaryOp .Add) (rCatL X.K) := by
  intro pins s σ H x y v u Q I rx ry h
  obtain ⟨l, b, xs, zs, rfl, rfl, hH, hB, hz, q⟩ := h
  cases rx
  cases ry
  obtain ⟨its, r, pl, _⟩ := I.list hH
  obtain ⟨its2, r2, pl2, _⟩ := I.list hB
  obtain ⟨⟨cls, dd, data, sl⟩, ho, hc, n, hd⟩ := pl.isList
  obtain ⟨⟨cls2, dd2, data2, sl2⟩, ho2, hc2, n2, hd2⟩ := pl2.isList
  simp only at hc hd hc2 hd2
  subst hc hd hc2 hd2
  have hl := r.length
  have hl2 := r2.length
  have e : its.toArray ++ its2.toArray = (its ++ its2).toArray := by simp
  refine concat_meets ⟨_, ho, rfl⟩ ⟨_, ho2, rfl⟩ noFill_list_add seq_list_add PySem.F.slot_list_add PySem.F.entry_list_add (PySem.F.args_list_add_2 _ _) (list_addW l b its.toArray its2.toArray n n2 dd dd2 sl sl2 (by simp; omega)) ⟨ho, ho2, ?_⟩
  rw [e]
  exact ⟨.ref _, _, I.lnew (t' := s.toks) (r.append r2) (by rw [List.length_append]; omega), rfl, q _ I.fresh⟩
/-! ### arithmetic -/
theorem op_mulX : OpR X (binaryOp .Mult) (rI IntMulOk fun i j => .int (i * j)) := opI fun _ _ _ _ _ _ _ hc q => mul_int q hc
def CPowX (i j : Int) : Prop := 0 ≤ j ∧ (Builtin.Int.intBits i : Int) * j ≤ 2 ^ 27
theorem op_powX : OpR X (binaryOp .Pow) (rI CPowX fun i j => .int (i ^ j.toNat)) := opI fun _ _ _ _ _ _ _ hc q => pow_int hc.1 hc.2 q
def dAdd (mk : Bool) : DR2 := fun x y G R => match x, y with
  | .int i, .int j => R (.int (i + j)) G
  | .str a, .str b => a.length + b.length ≤ sizeLine ∧ R (.str (a ++ b)) G
  | .tup a, .tup b => a.length + b.length ≤ sizeLine ∧ R (.tup (a ++ b)) G
  | x, y => match lstOf G x, lstOf G y with | some a, some b => a.length + b.length ≤ sizeLine ∧ newL mk (a ++ b) G R | _, _ => False
theorem od_add (mk : Bool) : OpD X (binaryOp .Add) (dAdd mk) := opr_mono (op_add.or (op_add_str.or (op_catA.or op_catL))) fun x y H Q h => by
  obtain ⟨c, d, G, N, R, r1, r2, rg, h, q⟩ := h
  unfold dAdd at h
  split at h
  · rename_i i j
    obtain rfl := r1.of_int
    obtain rfl := r2.of_int
    exact .inl ⟨i, j, rfl, rfl, q.at rg h (RD.int _)⟩
  · rename_i i j
    obtain rfl := r1.of_str
    obtain rfl := r2.of_str
    exact .inr (.inl ⟨i, j, rfl, rfl, h.1, q.at rg h.2 (RD.str _)⟩)
  · rename_i a b
    obtain ⟨p, vs, rfl, s1, d1⟩ := r1.of_tup
    obtain ⟨p2, vs2, rfl, s2, d2⟩ := r2.of_tup
    have l1 := d1.length
    have l2 := d2.length
    refine .inr (.inr (.inl ⟨p, p2, vs, vs2, rfl, rfl, s1, s2, by omega, fun e => ?_, fun e e2 => ?_, fun e e2 p np => ?_⟩))
    · subst e
      have e3 : a = [] := List.eq_nil_of_length_eq_zero (by simpa using l1)
      subst e3
      exact q.at rg h.2 (RD.tup s2 d2)
    · subst e2
      have e3 : b = [] := List.eq_nil_of_length_eq_zero (by simpa using l2)
      subst e3
      rw [List.append_nil] at h
      exact q.at rg h.2 (RD.tup s1 d1)
    · exact newT_ok rg (d1.append d2) h.2 q np
  · split at h
    · rename_i a b ea eb
      obtain ⟨p, vs, rfl, s1, d1⟩ := lstOf_ok rg r1 ea
      obtain ⟨p2, vs2, rfl, s2, d2⟩ := lstOf_ok rg r2 eb
      have l1 := d1.length
      have l2 := d2.length
      exact .inr (.inr (.inr ⟨p, p2, vs, vs2, rfl, rfl, s1, s2, by omega, fun p np => newL_ok rg (d1.append d2) h.2 q np⟩))
    · exact h.elim
/-- two ints, under C -/
def dI (C : Int → Int → Prop) (g : Int → Int → D) : DR2 := fun x y G R => match x, y with | .int i, .int j => C i j ∧ R (g i j) G | _, _ => False
def dI0 (g : Int → Int → D) : DR2 := fun x y G R => match x, y with | .int i, .int j => R (g i j) G | _, _ => False
theorem od_I {f : Value → Value → Sem Value} {C : Int → Int → Prop} {g : Int → Int → Int} (h : OpR X f (rI C fun i j => .int (g i j))) : OpD X f (dI C fun i j => .int (g i j)) := opr_mono h fun x y H Q h => by
  obtain ⟨c, d, G, N, R, r1, r2, rg, h, q⟩ := h
  unfold dI at h
  split at h
  · obtain rfl := r1.of_int
    obtain rfl := r2.of_int
    exact ⟨_, _, rfl, rfl, h.1, q.at rg h.2 (RD.int _)⟩
  · exact h.elim
theorem od_I0 {f : Value → Value → Sem Value} {g : Int → Int → Int} (h : OpR X f (rI0 fun i j => .int (g i j))) : OpD X f (dI0 fun i j => .int (g i j)) := opr_mono h fun x y H Q h => by
  obtain ⟨c, d, G, N, R, r1, r2, rg, h, q⟩ := h
  unfold dI0 at h
  split at h
  · obtain rfl := r1.of_int
    obtain rfl := r2.of_int
    exact ⟨_, _, rfl, rfl, q.at rg h (RD.int _)⟩
  · exact h.elim
def dMinus : DR2 := dI0 fun i j => .int (i - j)
def dMul : DR2 := dI IntMulOk fun i j => .int (i * j)
def dFdiv : DR2 := dI CDivW fun i j => .int (i / j)
def dMod : DR2 := dI (fun _ j => 0 < j) fun i j => .int (i % j)
def dPow : DR2 := dI CPowX fun i j => .int (i ^ j.toNat)
def dShl : DR2 := dI CShl fun i j => .int (i * 2 ^ j.toNat)
theorem od_sub : OpD X (binaryOp .Sub) dMinus := od_I0 op_sub
theorem od_mul : OpD X (binaryOp .Mult) dMul := od_I op_mulX
theorem od_fdiv : OpD X (binaryOp .FloorDiv) dFdiv := od_I op_fdivW
theorem od_mod : OpD X (binaryOp .Mod) dMod := od_I op_mod
theorem od_pow : OpD X (binaryOp .Pow) dPow := od_I op_powX
/-- += of ints, texts -/
def dIadd : DR2 := fun x y G R => match x, y with
  | .int i, .int j => R (.int (i + j)) G
  | .str a, .str b => a.length + b.length ≤ sizeLine ∧ R (.str (a ++ b)) G
  | _, _ => False
theorem od_iadd : OpD X (inplaceOp .Add) dIadd := opr_mono (iop_add.or iop_add_str) fun x y H Q h => by
  obtain ⟨c, d, G, N, R, r1, r2, rg, h, q⟩ := h
  unfold dIadd at h
  split at h
  · obtain rfl := r1.of_int
    obtain rfl := r2.of_int
    exact .inl ⟨_, _, rfl, rfl, q.at rg h (RD.int _)⟩
  · obtain rfl := r1.of_str
    obtain rfl := r2.of_str
    exact .inr ⟨_, _, rfl, rfl, h.1, q.at rg h.2 (RD.str _)⟩
  · exact h.elim
def dNeg : DR1 := fun x G R => match x with | .int i => R (.int (-i)) G | _ => False
theorem od_neg : UnD X (unaryOp .USub) dNeg := unr_mono un_neg fun x H Q h => by
  obtain ⟨c, G, N, R, r1, rg, h, q⟩ := h
  unfold dNeg at h
  split at h
  · obtain rfl := r1.of_int
    exact ⟨_, rfl, q.at rg h (RD.int _)⟩
  · exact h.elim
/-! ### comparisons -/
/-- the order of ints and of texts -/
def dOrd (pi : Int → Int → Bool) (ps : Str → Str → Bool) : DR2 := fun x y G R => match x, y with
  | .int i, .int j => R (.bl (pi i j)) G
  | .str a, .str b => R (.bl (ps a b)) G
  | _, _ => False
theorem od_ord {f : Value → Value → Sem Value} {pi : Int → Int → Bool} {ps : Str → Str → Bool} (h1 : OpR X f (rI0 fun i j => .bl (pi i j))) (h2 : OpR X f (fun x y H Q => ∃ i j, x = .str i ∧ y = .str j ∧ Q (.bl (ps i j)) H)) : OpD X f (dOrd pi ps) := opr_mono (h1.or h2) fun x y H Q h => by
  obtain ⟨c, d, G, N, R, r1, r2, rg, h, q⟩ := h
  unfold dOrd at h
  split at h
  · obtain rfl := r1.of_int
    obtain rfl := r2.of_int
    exact .inl ⟨_, _, rfl, rfl, q.at rg h (RD.bl _)⟩
  · obtain rfl := r1.of_str
    obtain rfl := r2.of_str
    exact .inr ⟨_, _, rfl, rfl, q.at rg h (RD.bl _)⟩
  · exact h.elim
def sLt (a b : Str) : Bool := decide (a.cps.toList < b.cps.toList)
def dLt : DR2 := dOrd (fun i j => decide (i < j)) fun a b => sLt a b
def dLe : DR2 := dOrd (fun i j => decide (i ≤ j)) fun a b => !sLt b a
def dGt : DR2 := dOrd (fun i j => decide (j < i)) fun a b => sLt b a
def dGe : DR2 := dOrd (fun i j => decide (j ≤ i)) fun a b => !sLt a b
theorem od_lt : OpD X (compareOp .Lt) dLt := od_ord op_lt op_lt_str
theorem od_le : OpD X (compareOp .LtE) dLe := od_ord op_le op_le_str
theorem od_gt : OpD X (compareOp .Gt) dGt := od_ord op_gt op_gt_str
mutual
def toPy : D → Option PyData
  | .non => some .none
  | .bl b => some (.bool b)
  | .int i => some (.int i)
  | .str x => some (.str x)
  | .tup ds => (toPys ds).map .tuple
  | .lst ds => (toPys ds).map .list
  | _ => none
def toPys : List D → Option (List PyData)
  | [] => some []
  | d :: ds => match toPy d, toPys ds with | some a, some b => some (a :: b) | _, _ => none
end
mutual
theorem toPy_ok {K : PySem.W.Frag} {H : Hp} {N : Ns} : ∀ {d : D} {v : V} {a : PyData}, RD K H N d v → toPy d = some a → Dp K H v a
  | .non, _, _, r, h => by simp only [toPy] at h; cases h; rw [r.of_non]; exact .non
  | .bl b, _, _, r, h => by simp only [toPy] at h; cases h; rw [r.of_bl]; exact .bl b
  | .int b, _, _, r, h => by simp only [toPy] at h; cases h; rw [r.of_int]; exact .int b
  | .str b, _, _, r, h => by simp only [toPy] at h; cases h; rw [r.of_str]; exact .str b
  | .tup ds, _, _, r, h => by
    simp only [toPy] at h
    obtain ⟨p, vs, rfl, s, q⟩ := r.of_tup
    cases e : toPys ds with
    | none => rw [e] at h; cases h
    | some as => rw [e] at h; cases h; exact .tup s (toPys_ok q e)
  | .lst ds, _, _, r, h => by
    simp only [toPy] at h
    obtain ⟨p, vs, rfl, s, q⟩ := r.of_lst
    cases e : toPys ds with
    | none => rw [e] at h; cases h
    | some as => rw [e] at h; cases h; exact .lst s.sq (toPys_ok q e)
  | .nt _, _, _, r, h => by simp only [toPy] at h; cases h
  | .ty _, _, _, r, h => by simp only [toPy] at h; cases h
  | .ref _, _, _, r, h => by simp only [toPy] at h; cases h
  | .any _, _, _, r, h => by simp only [toPy] at h; cases h
theorem toPys_ok {K : PySem.W.Frag} {H : Hp} {N : Ns} : ∀ {ds : List D} {vs : List V} {as : List PyData}, RDs K H N ds vs → toPys ds = some as → DpAll K H vs as
  | [], _, _, r, h => by simp only [toPys] at h; cases h; rw [r.of_nil]; exact .nil
  | d :: ds, _, _, r, h => by
    obtain ⟨v, vs, rfl, r1, r2⟩ := r.of_cons
    simp only [toPys] at h
    split at h
    · rename_i a b ea eb
      cases h
      exact .cons (toPy_ok r1 ea) (toPys_ok r2 eb)
    · cases h
end
def gPy (G : Gp) (d : D) : Option PyData := match d with
  | .ref a => match G a with | some (.lst ds) => (toPys ds).map .list | _ => none
  | d => toPy d
theorem gPy_ok {K : PySem.W.Frag} {H : Hp} {N : Ns} {G : Gp} {d : D} {v : V} {a : PyData} (rg : RelG K H N G) (r : RD K H N d v) (h : gPy G d = some a) : Dp K H v a := by
  unfold gPy at h
  split at h
  · rename_i p
    split at h
    · rename_i ds e
      obtain ⟨_, vs, hv, rd⟩ := rg p _ e
      rw [r.of_ref]
      cases e2 : toPys ds with
      | none => rw [e2] at h; cases h
      | some as => rw [e2] at h; cases h; exact .lst (SqL.of hv) (toPys_ok rd e2)
    · cases h
  · exact toPy_ok r h
/-- ==, as a bool of the answer -/
def dEqW (f : Bool → Bool) : DR2 := fun x y G R => match x, y with
  | .int i, .int j => R (.bl (f (decide (i = j)))) G
  | .str i, .str j => R (.bl (f (decide (i = j)))) G
  | .bl i, .bl j => R (.bl (f (decide (i = j)))) G
  | .non, .non => R (.bl (f true)) G
  | x, y => match gPy G x, gPy G y with | some a, some b => SeqAt.shaped a = true ∧ SeqAt.shaped b = true ∧ R (.bl (f (PyData.eqv a b))) G | _, _ => False
theorem dec_int' {i j : Int} : decide (V.int i = V.int j) = decide (i = j) := by rw [Bool.eq_iff_iff]; simp
theorem dec_str' {i j : Str} : decide (V.str i = V.str j) = decide (i = j) := by rw [Bool.eq_iff_iff]; simp
theorem dec_bl' {i j : Bool} : decide (V.bl i = V.bl j) = decide (i = j) := by rw [Bool.eq_iff_iff]; simp
theorem od_eqW {f : Value → Value → Sem Value} {g : Bool → Bool} {H0 : Prop} (h1 : OpR X f (fun x y H Q => scal x y = true ∧ Q (.bl (g (decide (x = y)))) H))
    (h2 : OpR X f (fun x y H Q => ∃ d e, Dp X.K H x d ∧ Dp X.K H y e ∧ SeqAt.shaped d = true ∧ SeqAt.shaped e = true ∧ Q (.bl (g (PyData.eqv d e))) H)) : OpD X f (dEqW g) := opr_mono (h1.or h2) fun x y H Q h => by
  obtain ⟨c, d, G, N, R, r1, r2, rg, h, q⟩ := h
  unfold dEqW at h
  split at h
  · obtain rfl := r1.of_int
    obtain rfl := r2.of_int
    exact .inl ⟨rfl, by rw [dec_int']; exact q.at rg h (RD.bl _)⟩
  · obtain rfl := r1.of_str
    obtain rfl := r2.of_str
    exact .inl ⟨rfl, by rw [dec_str']; exact q.at rg h (RD.bl _)⟩
  · obtain rfl := r1.of_bl
    obtain rfl := r2.of_bl
    exact .inl ⟨rfl, by rw [dec_bl']; exact q.at rg h (RD.bl _)⟩
  · obtain rfl := r1.of_non
    obtain rfl := r2.of_non
    exact .inl ⟨rfl, by simpa using q.at rg h (RD.bl _)⟩
  · split at h
    · rename_i a b ea eb
      exact .inr ⟨a, b, gPy_ok rg r1 ea, gPy_ok rg r2 eb, h.1, h.2.1, q.at rg h.2.2 (RD.bl _)⟩
    · exact h.elim
def dEq : DR2 := dEqW id
def dNe : DR2 := dEqW not
theorem od_eq (hu : X.A.units + 64 < cLine) : OpD X (compareOp .Eq) dEq := od_eqW (H0 := True) (opr_mono op_eq fun _ _ _ _ h => h) (opr_mono (op_eqD hu) fun _ _ _ _ h => h)
theorem od_ne (hu : X.A.units + 64 < cLine) : OpD X (compareOp .NotEq) dNe := od_eqW (H0 := True) (opr_mono op_ne fun _ _ _ _ h => h) (opr_mono (op_neD hu) fun _ _ _ _ h => h)
/-- is None -/
def isNon : D → Bool | .non => true | _ => false
theorem isNon_ok {K : PySem.W.Frag} {H : Hp} {N : Ns} {d : D} {v : V} (r : RD K H N d v) : decide (v = .non) = isNon d := by
  cases d with
  | non => rw [r.of_non]; rfl
  | bl b => rw [r.of_bl]; rfl
  | int b => rw [r.of_int]; rfl
  | str b => rw [r.of_str]; rfl
  | ty b => rw [r.of_ty]; rfl
  | ref b => rw [r.of_ref]; rfl
  | any b => obtain ⟨a, u, rfl, _⟩ := r.of_any; rfl
  | nt b => obtain ⟨a, rfl, _⟩ := r.of_nt; rfl
  | tup b => obtain ⟨a, u, rfl, _⟩ := r.of_tup; rfl
  | lst b => obtain ⟨a, u, rfl, _⟩ := r.of_lst; rfl
def dIs : DR2 := fun x y G R => match y with | .non => R (.bl (isNon x)) G | _ => False
def dIsNot : DR2 := fun x y G R => match y with | .non => R (.bl (!isNon x)) G | _ => False
theorem od_is : OpD X (compareOp .Is) dIs := opr_mono op_isN fun x y H Q h => by
  obtain ⟨c, d, G, N, R, r1, r2, rg, h, q⟩ := h
  unfold dIs at h
  split at h
  · exact ⟨r2.of_non, by rw [isNon_ok r1]; exact q.at rg h (RD.bl _)⟩
  · exact h.elim
theorem od_isNot : OpD X (compareOp .IsNot) dIsNot := opr_mono op_notN fun x y H Q h => by
  obtain ⟨c, d, G, N, R, r1, r2, rg, h, q⟩ := h
  unfold dIsNot at h
  split at h
  · exact ⟨r2.of_non, by rw [isNon_ok r1]; exact q.at rg h (RD.bl _)⟩
  · exact h.elim
/-! ### in -/
def flatD : D → Bool
  | .non => true | .bl _ => true | .int _ => true | .str _ => true | _ => false
def eqF : D → D → Bool
  | .non, .non => true
  | .bl a, .bl b => a == b
  | .bl a, .int b => (if a then 1 else 0) == b
  | .int a, .bl b => a == (if b then 1 else 0)
  | .int a, .int b => a == b
  | .str a, .str b => a == b
  | _, _ => false
def flatTo : D → V
  | .bl b => .bl b | .int b => .int b | .str b => .str b | _ => .non
theorem flat_ok {K : PySem.W.Frag} {H : Hp} {N : Ns} {d : D} {v : V} (r : RD K H N d v) (f : flatD d = true) : v = flatTo d := by
  cases d with
  | non => exact r.of_non
  | bl b => exact r.of_bl
  | int b => exact r.of_int
  | str b => exact r.of_str
  | _ => cases f
theorem flats_ok {K : PySem.W.Frag} {H : Hp} {N : Ns} : ∀ {ds : List D} {vs : List V}, RDs K H N ds vs → ds.all flatD = true → vs = ds.map flatTo
  | [], _, r, _ => r.of_nil
  | d :: ds, _, r, f => by
    obtain ⟨v, vs, rfl, r1, r2⟩ := r.of_cons
    simp only [List.all_cons, Bool.and_eq_true] at f
    rw [flat_ok r1 f.1, flats_ok r2 f.2]; rfl
theorem flatV_to {d : D} (f : flatD d = true) : flatV (flatTo d) = true := by cases d <;> rfl
theorem eqV_to {c d : D} (f : flatD c = true) (g : flatD d = true) : eqV (flatTo c) (flatTo d) = eqF c d := by
  cases c <;> cases d <;> first | rfl | (simp [flatD] at f; done) | (simp [flatD] at g; done)
def inF (x : D) (ds : List D) : Bool := ds.any fun y => eqF y x
theorem inV_to {x : D} (f : flatD x = true) : ∀ {ds : List D}, ds.all flatD = true → inV (flatTo x) (ds.map flatTo) = inF x ds
  | [], _ => rfl
  | d :: ds, h => by
    simp only [List.all_cons, Bool.and_eq_true] at h
    have ih := inV_to f h.2
    unfold inV inF at ih ⊢
    rw [List.map_cons, List.any_cons, List.any_cons, eqV_to h.1 f, ih]
theorem flatsV_to : ∀ {ds : List D}, ds.all flatD = true → (ds.map flatTo).all flatV = true
  | [], _ => rfl
  | d :: ds, h => by
    simp only [List.all_cons, Bool.and_eq_true] at h
    rw [List.map_cons, List.all_cons, flatV_to h.1, flatsV_to h.2]; rfl
/-- the things of a list or tuple -/
def seqOf (G : Gp) : D → Option (List D)
  | .tup ds => some ds
  | .nt zs => some (zs.map .str)
  | d => lstOf G d
theorem seqOf_ok {K : PySem.W.Frag} {H : Hp} {N : Ns} {G : Gp} {d : D} {v : V} {ds : List D} (rg : RelG K H N G) (rd : RD K H N d v) (h : seqOf G d = some ds) : ∃ p vs, v = .ref p ∧ (SqL K H p vs ∨ SqT K H p vs) ∧ RDs K H N ds vs := by
  unfold seqOf at h
  split at h
  · cases h
    obtain ⟨p, vs, rfl, s, r⟩ := rd.of_tup
    exact ⟨p, vs, rfl, .inr s, r⟩
  · rename_i zs
    cases h
    obtain ⟨p, rfl, s⟩ := rd.of_nt
    exact ⟨p, _, rfl, .inr s.sq, RDs.strs zs⟩
  · obtain ⟨p, vs, rfl, s, r⟩ := lstOf_ok rg rd h
    exact ⟨p, vs, rfl, .inl s, r⟩
def strIn (a b : Str) : Bool := !(Builtin.Str.occurrences b a 0 b.length 1).isEmpty
def dInW (f : Bool → Bool) : DR2 := fun x y G R => match x, y with
  | .str a, .str b => match a.cps.toList with | [c] => R (.bl (f (decide (c ∈ b.cps.toList)))) G | _ => R (.bl (f (strIn a b))) G
  | x, y => match seqOf G y with | some ds => flatD x = true ∧ ds.all flatD = true ∧ R (.bl (f (inF x ds))) G | none => False
theorem str_one {a : Str} {c : Nat} (h : a.cps.toList = [c]) : a = ⟨#[c]⟩ := by
  cases a with
  | mk cps => simp only at h; congr 1; apply Array.toList_inj.mp; simpa using h
theorem od_inW {f : Value → Value → Sem Value} {g : Bool → Bool} (h1 : OpR X f (fun x y H Q => ∃ (c : Nat) (z : Str), x = .str ⟨#[c]⟩ ∧ y = .str z ∧ Q (.bl (g (decide (c ∈ z.cps.toList)))) H))
    (h2 : OpR X f (fun x y H Q => ∃ i j, x = .str i ∧ y = .str j ∧ Q (.bl (g (!(Builtin.Str.occurrences j i 0 j.length 1).isEmpty))) H))
    (h3 : OpR X f (fun x y H Q => ∃ p xs, y = .ref p ∧ (SqL X.K H p xs ∨ SqT X.K H p xs) ∧ flatV x = true ∧ xs.all flatV = true ∧ Q (.bl (g (inV x xs))) H)) : OpD X f (dInW g) := opr_mono (h1.or (h2.or h3)) fun x y H Q h => by
  obtain ⟨c, d, G, N, R, r1, r2, rg, h, q⟩ := h
  unfold dInW at h
  split at h
  · rename_i a b
    obtain rfl := r1.of_str
    obtain rfl := r2.of_str
    split at h
    · rename_i c e
      exact .inl ⟨c, b, by rw [str_one e], rfl, q.at rg h (RD.bl _)⟩
    · exact .inr (.inl ⟨a, b, rfl, rfl, q.at rg h (RD.bl _)⟩)
  · split at h
    · rename_i ds e
      obtain ⟨p, vs, rfl, s, r⟩ := seqOf_ok rg r2 e
      have e1 := flat_ok r1 h.1
      have e2 := flats_ok r h.2.1
      subst e1 e2
      refine .inr (.inr ⟨p, _, rfl, s, flatV_to h.1, flatsV_to h.2.1, ?_⟩)
      rw [inV_to h.1 h.2.1]
      exact q.at rg h.2.2 (RD.bl _)
    · exact h.elim
def dNotIn : DR2 := dInW not
theorem od_notIn : OpD X (compareOp .NotIn) dNotIn := od_inW (opr_mono op_notIn_sign fun _ _ _ _ h => h) (opr_mono op_notin_str fun _ _ _ _ h => h) (opr_mono op_notIn_seq fun _ _ _ _ h => by
  obtain ⟨p, xs, a, b, c, d, e⟩ := h
  exact ⟨p, xs, a, b, c, d, by simpa using e⟩)
/-! ### subscripts -/
def dIx : DR2 := fun x y G R => match x, y with
  | .str z, .int i => z.length ≤ sizeLine ∧ (match atI z.cps.toList i with | some c => R (.str ⟨#[c]⟩) G | none => False)
  | x, .int i => match seqOf G x with | some ds => (match atI ds i with | some d => R d G | none => False) | none => False
  | _, _ => False
theorem atI_rd {K : PySem.W.Frag} {H : Hp} {N : Ns} {ds : List D} {vs : List V} {i : Int} {d : D} (r : RDs K H N ds vs) (h : atI ds i = some d) : ∃ v, atI vs i = some v ∧ RD K H N d v := by
  unfold atI at h ⊢
  rw [← r.length]
  cases e : ixN ds.length i with
  | none => rw [e] at h; cases h
  | some j =>
    rw [e] at h
    obtain ⟨v, h1, h2⟩ := r.get (i := j) (d := d) h
    exact ⟨v, h1, h2⟩
theorem xd_ix : IxD X dIx := ixr_mono ix_seq fun x y H Q h => by
  obtain ⟨c, d, G, N, R, r1, r2, rg, h, q⟩ := h
  unfold dIx at h
  split at h
  · rename_i z i
    obtain rfl := r1.of_str
    obtain rfl := r2.of_int
    obtain ⟨hz, h⟩ := h
    split at h
    · rename_i c e
      exact .inr (.inr ⟨z, i, c, rfl, rfl, hz, e, q.at rg h (RD.str _)⟩)
    · exact h.elim
  · rename_i i _
    obtain rfl := r2.of_int
    split at h
    · rename_i ds e
      obtain ⟨p, vs, rfl, s, r⟩ := seqOf_ok rg r1 e
      split at h
      · rename_i d ed
        obtain ⟨v, hv, rv⟩ := atI_rd r ed
        rcases s with s | s
        · exact .inl ⟨p, vs, i, v, rfl, rfl, s, hv, q.at rg h rv⟩
        · exact .inr (.inl ⟨p, vs, i, v, rfl, rfl, s, hv, q.at rg h rv⟩)
      · exact h.elim
    · exact h.elim
  · exact h.elim
/-- a list's item stored -/
def dSetI : DSet := fun o i v G R => match o, i with
  | .ref a, .int k => match G a with | some (.lst ds) => (match ixN ds.length k with | some j => R (gup G a (.lst (ds.set j v))) | none => False) | _ => False
  | _, _ => False
theorem sd_set : SetD X dSetI := by
  intro pins s σ H o i v ov iv u Q I ro ri rv h
  refine set_list pins s σ H o i v ov iv u Q I ro ri rv ?_
  obtain ⟨c, d, e, G, N, R, r1, r2, r3, rg, h, q⟩ := h
  unfold dSetI at h
  split at h
  · rename_i a k
    obtain rfl := r1.of_ref
    obtain rfl := r2.of_int
    split at h
    · rename_i ds ea
      split at h
      · rename_i j ej
        obtain ⟨_, vs, hv, r⟩ := rg a _ ea
        refine ⟨a, vs, k, j, rfl, rfl, hv, by rw [← r.length]; exact ej, ?_⟩
        refine q _ N _ h (Stp.write (u := .lst (vs.set j v)) rg ea hv rfl rfl ⟨_, upd_same, ?_⟩)
        exact (RDs.set r3 j r).le (Kp.write (u := .lst (vs.set j v)) (rg a _ ea).1 hv rfl rfl)
      · exact h.elim
    · exact h.elim
  · exact h.elim
end
end DL

set_option Elab.async false
set_option linter.all false
set_option maxRecDepth 100000
set_option maxHeartbeats 4000000
set_option autoImplicit false
namespace DL
open PySem PySem.Spec PyProof.Rows L2

/-! ### slices -/
abbrev DO := Sd → Gp → (Option Int → Gp → Prop) → Prop
def upO (K : PySem.W.Frag) (t : DO) : TO := fun τ H Q => ∃ σ G N R, RSt K H N σ τ ∧ RelG K H N G ∧ t σ G R ∧ ∀ o G' N' H', R o G' → Stp K H N G H' N' G' → Q o H'
def QO (X : Cx) (e : Option Expr) (t : DO) : Prop := PO X e (upO X.K t)
def dNoPart : DO := fun _ G R => R none G
def dPart (t : DE) : DO := fun σ G R => t σ G fun x G1 => match x with | .int i => R (some i) G1 | _ => False
theorem po_mono {X : Cx} {e : Option Expr} {t t' : TO} (h : PO X e t) (i : ∀ τ H Q, t' τ H Q → t τ H Q) : PO X e t' := ⟨fun pins s σ H Q I q => h.run pins s σ H Q I (i σ H Q q)⟩
def cutL {α : Type} (xs : List α) (lo hi : Option Int) : List α := (xs.drop (HT.sIx xs.length 0 lo)).take (HT.sIx xs.length xs.length hi - HT.sIx xs.length 0 lo)
theorem RDs.cut {K : PySem.W.Frag} {H : Hp} {N : Ns} {ds : List D} {vs : List V} (r : RDs K H N ds vs) (lo hi : Option Int) : RDs K H N (cutL ds lo hi) (cutV vs lo hi) := by
  unfold cutL cutV
  rw [r.length]
  exact RDs.take _ (RDs.drop _ r)
theorem cut_whole {α : Type} {xs : List α} {lo hi : Option Int} (h : HT.sIx xs.length 0 lo = 0 ∧ HT.sIx xs.length xs.length hi = xs.length) : cutL xs lo hi = xs := by
  unfold cutL
  rw [h.1, h.2, List.drop_zero, Nat.sub_zero, List.take_length]
def dSl (mk : Bool) : D → Option Int → Option Int → Gp → DK → Prop := fun x lo hi G R => match x with
  | .str z => z.length ≤ sizeLine ∧ R (.str (cutS z lo hi)) G
  | .tup ds => R (.tup (cutL ds lo hi)) G
  | x => match lstOf G x with | some ds => newL mk (cutL ds lo hi) G R | none => False
def dSlice (mk : Bool) (te : DE) (tl th : DO) : DE := fun σ G R => te σ G fun x G1 => tl σ G1 fun l G2 => th σ G2 fun u G3 => dSl mk x l u G3 R
section
variable {X : Cx} {e : Expr} {te : DE} {pos : Pos}
theorem qo_none : QO X none dNoPart := po_mono po_none fun τ H Q h => by
  obtain ⟨σ, G, N, R, hs, hg, ht, q⟩ := h
  exact q _ _ _ _ ht (Stp.refl hg)
theorem qo_some (h : QE X e te) : QO X (some e) (dPart te) := po_mono (po_some h) fun τ H Q h => by
  obtain ⟨σ, G, N, R, hs, hg, ht, q⟩ := h
  refine ⟨σ, G, N, _, hs, hg, ht, fun d G1 N1 v1 H1 h1 s1 r1 => ?_⟩
  split at h1
  · exact ⟨_, r1.of_int, q _ _ _ _ h1 s1⟩
  · exact h1.elim
theorem qe_slice (mk : Bool) {lo hi : Option Expr} {tl th : DO} {p2 : Pos} (he : QE X e te) (hl : QO X lo tl) (hu : QO X hi th) : QE X (.Subscript e (.Slice lo hi none p2) pos) (dSlice mk te tl th) :=
  pe_mono (pe_slice (sl_str.or (sl_tupA.or sl_list)) he hl hu) fun τ H Q h => by
    obtain ⟨σ, G, N, R, hs, hg, ht, q⟩ := h
    refine ⟨σ, G, N, _, hs, hg, ht, fun d G1 N1 v1 H1 h1 s1 r1 => ?_⟩
    refine ⟨σ, G1, N1, _, hs.le s1.kp, s1.rel, h1, fun l G2 N2 H2 h2 s2 => ?_⟩
    refine ⟨σ, G2, N2, _, (hs.le s1.kp).le s2.kp, s2.rel, h2, fun u G3 N3 H3 h3 s3 => ?_⟩
    have s13 := (s1.trans s2).trans s3
    have r3 := (r1.le s2.kp).le s3.kp
    have q3 := q.le s13
    have rg := s3.rel
    unfold dSl at h3
    split at h3
    · obtain rfl := r3.of_str
      exact .inl ⟨_, rfl, h3.1, q3.at rg h3.2 (RD.str _)⟩
    · rename_i ds
      obtain ⟨p, vs, rfl, sq, r⟩ := r3.of_tup
      have hlen := r.length
      refine .inr (.inl ⟨p, vs, rfl, sq, fun hw => ?_, fun hw p np => ?_⟩)
      · rw [cut_whole (by rw [hlen]; exact hw)] at h3
        exact q3.at rg h3 (RD.tup sq r)
      · exact newT_ok rg (r.cut l u) h3 q3 np
    · split at h3
      · rename_i ds ed
        obtain ⟨p, vs, rfl, sq, r⟩ := lstOf_ok rg r3 ed
        exact .inr (.inr ⟨p, vs, rfl, sq, fun p np => newL_ok rg (r.cut l u) h3 q3 np⟩)
      · exact h3.elim
end
/-! ### t[::-1] -/
section
variable {prog : Program} {w : World} {A : Around} {E : Value → Shared → Prop} {s : Shared}
end
section
variable {X : Cx}
def dRev (mk : Bool) (te : DE) : DE := fun σ G R => te σ G fun x G1 => match x with
  | .tup ds => R (.tup ds.reverse) G1
  | x => match lstOf G1 x with | some ds => newL mk ds.reverse G1 R | none => False
/-! ### built-ins -/
theorem up_rn {f : Value} {r : DRn} {rv : List V → Hp → VK → Prop} (h : CallR X f rv) (i : ∀ cs G N R xs H Q, RDs X.K H N cs xs → RelG X.K H N G → r cs G R → UpQ X.K H N G R Q → rv xs H Q) : CallD X f r := callr_mono h fun xs H Q h => by
  obtain ⟨cs, G, N, R, r1, rg, h, q⟩ := h
  exact i cs G N R xs H Q r1 rg h q
def dLen : DRn := fun cs G R => match cs with
  | [.str z] => z.length ≤ sizeLine ∧ R (.int z.length) G
  | [x] => match seqOf G x with | some ds => R (.int ds.length) G | none => False
  | _ => False
theorem cd_len : CallD X (.builtin "len") dLen := up_rn (call_len_str.or call_len_seq) fun cs G N R xs H Q rd rg h q => by
  unfold dLen at h
  split at h
  · obtain ⟨v, r, rfl, r1, r2⟩ := rd.of_cons
    rw [r1.of_str, r2.of_nil]
    exact .inl ⟨_, rfl, h.1, q.at rg h.2 (RD.int _)⟩
  · obtain ⟨v, r, rfl, r1, r2⟩ := rd.of_cons
    rw [r2.of_nil]
    split at h
    · rename_i ds e
      obtain ⟨p, vs, rfl, s, r⟩ := seqOf_ok rg r1 e
      refine .inr ⟨p, vs, rfl, s, ?_⟩
      rw [← r.length]
      exact q.at rg h (RD.int _)
    · exact h.elim
  · exact h.elim
def dMax2 : DRn := fun cs G R => match cs with | [.int i, .int j] => R (.int (if j > i then j else i)) G | _ => False
def dMin2 : DRn := fun cs G R => match cs with | [.int i, .int j] => R (.int (if j < i then j else i)) G | _ => False
theorem cd_max2 (hc : X.calm = true) : CallD X (.builtin "max") dMax2 := up_rn (call_max2 hc) fun cs G N R xs H Q rd rg h q => by
  unfold dMax2 at h
  split at h
  · obtain ⟨v, r, rfl, r1, r2⟩ := rd.of_cons
    obtain ⟨v', r', rfl, r3, r4⟩ := r2.of_cons
    rw [r4.of_nil, r1.of_int, r3.of_int]
    exact ⟨_, _, rfl, q.at rg h (RD.int _)⟩
  · exact h.elim
theorem cd_min2 (hc : X.calm = true) : CallD X (.builtin "min") dMin2 := up_rn (call_min2 hc) fun cs G N R xs H Q rd rg h q => by
  unfold dMin2 at h
  split at h
  · obtain ⟨v, r, rfl, r1, r2⟩ := rd.of_cons
    obtain ⟨v', r', rfl, r3, r4⟩ := r2.of_cons
    rw [r4.of_nil, r1.of_int, r3.of_int]
    exact ⟨_, _, rfl, q.at rg h (RD.int _)⟩
  · exact h.elim
def dTuple : DRn := fun cs G R => match cs with | [x] => (match seqOf G x with | some ds => R (.tup ds) G | none => False) | _ => False
def dList (mk : Bool) : DRn := fun cs G R => match cs with | [x] => (match seqOf G x with | some ds => newL mk ds G R | none => False) | _ => False
theorem cd_tuple : CallD X (.type "tuple") dTuple := up_rn call_tuple_of fun cs G N R xs H Q rd rg h q => by
  unfold dTuple at h
  split at h
  · obtain ⟨v, r, rfl, r1, r2⟩ := rd.of_cons
    rw [r2.of_nil]
    split at h
    · rename_i ds e
      obtain ⟨p, vs, rfl, s, r⟩ := seqOf_ok rg r1 e
      refine ⟨p, vs, rfl, ?_⟩
      rcases s with s | s
      · exact .inl ⟨s, fun p np => newT_ok rg r h q np⟩
      · exact .inr ⟨s, q.at rg h (RD.tup s r)⟩
    · exact h.elim
  · exact h.elim
def dInt : DRn := fun cs G R => match cs with | [.int i] => R (.int i) G | [.bl b] => R (.int (if b then 1 else 0)) G | _ => False
theorem cd_int : CallD X (.type "int") dInt := up_rn call_int1 fun cs G N R xs H Q rd rg h q => by
  unfold dInt at h
  split at h
  · obtain ⟨v, r, rfl, r1, r2⟩ := rd.of_cons
    rw [r2.of_nil, r1.of_int]
    exact .inl ⟨_, rfl, q.at rg h (RD.int _)⟩
  · obtain ⟨v, r, rfl, r1, r2⟩ := rd.of_cons
    rw [r2.of_nil, r1.of_bl]
    exact .inr ⟨_, rfl, q.at rg h (RD.int _)⟩
  · exact h.elim
def dStrI : DRn := fun cs G R => match cs with | [.int i] => i.natAbs.log2 < 1920 ∧ R (.str (toString i)) G | _ => False
theorem cd_strI : CallD X (.type "str") dStrI := up_rn call_str_int fun cs G N R xs H Q rd rg h q => by
  unfold dStrI at h
  split at h
  · obtain ⟨v, r, rfl, r1, r2⟩ := rd.of_cons
    rw [r2.of_nil, r1.of_int]
    exact ⟨_, rfl, h.1, q.at rg h.2 (RD.str _)⟩
  · exact h.elim
/-- the type of data -/
def tyD (G : Gp) : D → Option String
  | .non => some "NoneType" | .bl _ => some "bool" | .int _ => some "int" | .str _ => some "str" | .tup _ => some "tuple" | .nt _ => some "tuple" | .lst _ => some "list"
  | .any n => if n = "list" ∨ n = "dict" then some n else none
  | .ref a => match G a with | some (.lst _) => some "list" | some (.dK _) => some "dict" | some (.dT _) => some "dict" | _ => none
  | _ => none
def isTy (t n : String) : Bool := t == n || (t == "bool" && n == "int")
def knownTy : List String := ["int", "bool", "str", "tuple", "list", "dict"]
def dIsi : DRn := fun cs G R => match cs with
  | [x, .ty n] => n ∈ knownTy ∧ (match tyD G x with | some t => R (.bl (isTy t n)) G | none => False)
  | _ => False
theorem kits : ∀ t ∈ ["NoneType", "bool", "int", "str", "tuple", "list", "dict"], ∀ n ∈ knownTy, kitB t n = some (isTy t n) := by decide +kernel
theorem knd_ty {K : PySem.W.Frag} {H : Hp} {a : Addr} {u : HO} {n : String} (h : H a = some u) (k : knd u = n) (d : n = "list" ∨ n = "dict") : TyX K H (.ref a) (.type n) := by
  subst k
  cases u with
  | lst _ => exact .base (.lst h)
  | dK _ => exact .base (.dK h)
  | dT _ => exact .base (.dT h)
  | frz o z =>
    cases z with
    | lst _ => exact .base (.frz h)
    | dK _ => exact .fDict h
    | _ => simp [knd] at d
  | _ => simp [knd] at d
theorem tyD_ok {K : PySem.W.Frag} {H : Hp} {N : Ns} {G : Gp} {d : D} {v : V} {t : String} (rg : RelG K H N G) (rd : RD K H N d v) (h : tyD G d = some t) : TyX K H v (.type t) ∧ t ∈ ["NoneType", "bool", "int", "str", "tuple", "list", "dict"] := by
  cases d with
  | non => cases h; rw [rd.of_non]; exact ⟨.base .non, by decide⟩
  | bl b => cases h; rw [rd.of_bl]; exact ⟨.base (.bl _), by decide⟩
  | int b => cases h; rw [rd.of_int]; exact ⟨.base (.int _), by decide⟩
  | str b => cases h; rw [rd.of_str]; exact ⟨.base (.str _), by decide⟩
  | ty b => cases h
  | nt zs =>
    cases h
    obtain ⟨p, rfl, s⟩ := rd.of_nt
    refine ⟨?_, by decide⟩
    rcases s with ⟨o, s, _⟩ | ⟨o, its, n, e, c, _⟩
    · exact .fTuple s
    · exact .kTuple e c
  | tup ds =>
    cases h
    obtain ⟨p, vs, rfl, s, r⟩ := rd.of_tup
    refine ⟨?_, by decide⟩
    rcases s with (s | ⟨o, s⟩) | ⟨o, its, n, e, c, _⟩
    · exact .base (.tup s)
    · exact .fTuple s
    · exact .kTuple e c
  | lst ds =>
    cases h
    obtain ⟨p, vs, rfl, s, r⟩ := rd.of_lst
    refine ⟨?_, by decide⟩
    rcases s with ⟨s, _⟩ | ⟨o, s⟩ | ⟨o, its, n, e, c, _⟩
    · exact .base (.lst s)
    · exact .base (.frz s)
    · exact .kList e c
  | any n =>
    obtain ⟨a, u, rfl, hu, k⟩ := rd.of_any
    unfold tyD at h
    simp only at h
    split at h
    · rename_i d
      cases h
      refine ⟨knd_ty hu k d, ?_⟩
      rcases d with d | d
      · subst d; decide
      · subst d; decide
    · cases h
  | ref a =>
    obtain rfl := rd.of_ref
    unfold tyD at h
    simp only at h
    split at h
    · rename_i ds e
      cases h
      obtain ⟨_, vs, hv, _⟩ := rg a _ e
      exact ⟨.base (.lst hv), by decide⟩
    · rename_i ds e
      cases h
      obtain ⟨_, vs, hv, _⟩ := rg a _ e
      exact ⟨.base (.dK hv), by decide⟩
    · rename_i ds e
      cases h
      obtain ⟨_, vs, hv, _⟩ := rg a _ e
      exact ⟨.base (.dT hv), by decide⟩
    · cases h
theorem cd_isi : CallD X (.builtin "isinstance") dIsi := up_rn call_isi fun cs G N R xs H Q rd rg h q => by
  unfold dIsi at h
  split at h
  · rename_i x n
    obtain ⟨hn, h⟩ := h
    obtain ⟨v, r, rfl, r1, r2⟩ := rd.of_cons
    obtain ⟨v', r', rfl, r3, r4⟩ := r2.of_cons
    rw [r4.of_nil, r3.of_ty]
    split at h
    · rename_i t et
      obtain ⟨ty, mt⟩ := tyD_ok rg r1 et
      exact ⟨v, _, .type t, .type n, isTy t n, rfl, .ty n, ty, kit_ty (kits t mt n hn), q.at rg h (RD.bl _)⟩
    · exact h.elim
  · exact h.elim
/-- a built-in type's name, as a value -/
theorem qe_ty {x : Str} {n : String} {pos : Pos} (hg : Gl X x) (hm : X.mg x = none) (hv : bootBuiltins x = some (.type n)) (hn : x ≠ "__name__" := by decide) (hd : (x == ("__debug__" : Str)) = false := by decide) : QE X (.Name x pos) (dC (.ty n)) :=
  pe_mono (pe_bltn hg hm hv (v := .ty n) rfl hn hd) fun _ _ _ h => up_c (fun _ _ => RD.ty n) h
/-! ### methods -/
def MtD (X : Cx) (id : String) (r : D → List D → Gp → DK → Prop) : Prop := MtR X id (upM X.K r)
theorem mtr_mono {id : String} {r r' : V → List V → Hp → VK → Prop} (h : MtR X id r) (i : ∀ x xs H Q, r' x xs H Q → r x xs H Q) : MtR X id r' := fun pins s σ H x xs v us Q I rx rxs q => h pins s σ H x xs v us Q I rx rxs (i x xs H Q q)
theorem md_of {id : String} {r : D → List D → Gp → DK → Prop} {rv : V → List V → Hp → VK → Prop} (h : MtR X id rv) (i : ∀ c cs G N R x xs H Q, RD X.K H N c x → RDs X.K H N cs xs → RelG X.K H N G → r c cs G R → UpQ X.K H N G R Q → rv x xs H Q) : MtD X id r := mtr_mono h fun x xs H Q h => by
  obtain ⟨c, cs, G, N, R, r0, r1, rg, h, q⟩ := h
  exact i c cs G N R x xs H Q r0 r1 rg h q
/-- the type of what has methods -/
def mty (G : Gp) : D → Option String
  | .str _ => some "str" | .lst _ => some "list"
  | .ref a => match G a with | some (.lst _) => some "list" | some (.dK _) => some "dict" | some (.dT _) => some "dict" | _ => none
  | _ => none
def dM (T : String) (r : D → List D → Gp → DK → Prop) (to : DE) (t : DA) : DE := fun σ G R => to σ G fun x G1 => mty G1 x = some T ∧ t σ G1 fun xs G2 => r x xs G2 R
def dM0 (T : String) (r : D → List D → Gp → DK → Prop) (to : DE) : DE := fun σ G R => to σ G fun x G1 => mty G1 x = some T ∧ r x [] G1 R
theorem tyV_of {K : PySem.W.Frag} {H : Hp} {N : Ns} {G : Gp} {d : D} {v : V} {T : String} (rg : RelG K H N G) (rd : RD K H N d v) (h : mty G d = some T) : tyV K T v H := by
  cases d with
  | str b => cases h; rw [rd.of_str]; rfl
  | lst ds =>
    cases h
    obtain ⟨p, vs, rfl, s, r⟩ := rd.of_lst
    exact .inl ⟨rfl, _, s.sq⟩
  | ref a =>
    obtain rfl := rd.of_ref
    unfold mty at h
    simp only at h
    split at h
    · rename_i ds e
      cases h
      obtain ⟨_, vs, hv, _⟩ := rg a _ e
      exact .inl ⟨rfl, _, SqL.of hv⟩
    · rename_i ds e
      cases h
      obtain ⟨_, vs, hv, _⟩ := rg a _ e
      exact .inr (.inr (.inl ⟨rfl, .inl ⟨_, hv⟩⟩))
    · rename_i ds e
      cases h
      obtain ⟨_, vs, hv, _⟩ := rg a _ e
      exact .inr (.inr (.inl ⟨rfl, .inr ⟨_, hv⟩⟩))
    · cases h
  | _ => cases h
variable {o e : Expr} {es : List Expr} {to : DE} {t : DA} {name : Str} {apos cpos : Pos} {T id : String} {r : D → List D → Gp → DK → Prop}
theorem qe_m (pa : PlainAttrs T) (slot : Slot T name id) (hty : typeOf (.builtin id) = pure (.type "method_descriptor")) (hm : MtD X id r) (ho : QE X o to) (ha : QA X (e :: es) t)
    (hbase : attributeBase o name X.env (eval o X.env) = eval o X.env := by rfl)
    (hfew : ((backTo cpos (starEach (e :: es) X.env)).all (fun x => !x.1) && (backToKw cpos (keywordEach [] X.env)).all (fun x => x.1.isSome)
      && decide ((e :: es).length + ([] : List Keyword).length + (if ([] : List Keyword).isEmpty then 0 else 1) < 30)) = true := by rfl)
    (hline : (apos.endLine == cpos.line) = true := by rfl) (hs : starEach (e :: es) X.env = (false, eval e X.env) :: starEach es X.env := by rfl) (hplain : (backTo cpos (starEach es X.env)).any (·.1) = false := by rfl) :
    QE X (.Call (.Attribute o name apos) (e :: es) [] cpos) (dM T r to t) := pe_mono (pe_bm pa slot hty hm ho ha hbase hfew hline hs hplain) fun τ H Q h => by
  obtain ⟨σ, G, N, R, hs, hg, ht, q⟩ := h
  refine ⟨σ, G, N, _, hs, hg, ht, fun x G1 N1 v1 H1 h1 s1 r1 => ?_⟩
  refine ⟨tyV_of s1.rel r1 h1.1, σ, G1, N1, _, hs.le s1.kp, s1.rel, h1.2, fun xs G2 N2 vs H2 h2 s2 r2 => ?_⟩
  exact ⟨x, xs, G2, N2, R, r1.le s2.kp, r2, s2.rel, h2, q.le (s1.trans s2)⟩
/-- xs.append(y) -/
def dAppend : D → List D → Gp → DK → Prop := fun x xs G R => match x, xs with
  | .ref a, [y] => match G a with | some (.lst ds) => ds.length < sizeLine ∧ R .non (gup G a (.lst (ds ++ [y]))) | _ => False
  | _, _ => False
theorem md_append : MtD X "list.append" dAppend := md_of (rv := rAppend) (fun pins s σ H x xs v us Q I rx rxs q => mt_append pins s σ H x xs v us Q I rx rxs q) fun c cs G N R x xs H Q r0 r1 rg h q => by
  unfold dAppend at h
  split at h
  · rename_i a y
    obtain rfl := r0.of_ref
    obtain ⟨v, r, rfl, rv, rr⟩ := r1.of_cons
    rw [rr.of_nil]
    split at h
    · rename_i ds e
      obtain ⟨_, vs, hv, rd⟩ := rg a _ e
      have hl := rd.length
      refine ⟨a, vs, v, rfl, rfl, hv, by omega, ?_⟩
      refine q _ _ N _ _ h.2 (Stp.write (u := .lst (vs ++ [v])) rg e hv rfl rfl ⟨_, upd_same, ?_⟩) RD.non
      exact (rd.append (RDs.cons rv RDs.nil)).le (Kp.write (u := .lst (vs ++ [v])) (rg a _ e).1 hv rfl rfl)
    · exact h.elim
  · exact h.elim
def strsOf : List D → Option (List Str)
  | [] => some []
  | .str b :: r => match strsOf r with | some bs => some (b :: bs) | none => none
  | _ => none
theorem strsOf_ok : ∀ {ds : List D} {bs : List Str}, strsOf ds = some bs → ds = bs.map D.str
  | [], _, h => by cases h; rfl
  | .str b :: r, _, h => by
    unfold strsOf at h
    split at h
    · rename_i bs e
      cases h
      rw [strsOf_ok e]; rfl
    · cases h
  | .non :: r, _, h => by simp [strsOf] at h
  | .int _ :: r, _, h => by simp [strsOf] at h
  | .bl _ :: r, _, h => by simp [strsOf] at h
  | .ty _ :: r, _, h => by simp [strsOf] at h
  | .ref _ :: r, _, h => by simp [strsOf] at h
  | .any _ :: r, _, h => by simp [strsOf] at h
  | .tup _ :: r, _, h => by simp [strsOf] at h
  | .lst _ :: r, _, h => by simp [strsOf] at h
theorem strsOf_map : ∀ bs : List Str, strsOf (bs.map D.str) = some bs
  | [] => rfl
  | b :: bs => by rw [List.map_cons]; unfold strsOf; rw [strsOf_map bs]
/-- sep.join(texts) -/
def dJoin : D → List D → Gp → DK → Prop := fun x xs G R => match x, xs with
  | .str a, [y] => match (seqOf G y).bind strsOf with | some ys => (ys.map (·.length)).sum + ys.length * a.length ≤ 16777216 ∧ R (.str (Txt.join a ys)) G | none => False
  | _, _ => False
theorem md_join : MtD X "str.join" dJoin := md_of mt_join fun c cs G N R x xs H Q r0 r1 rg h q => by
  unfold dJoin at h
  split at h
  · obtain rfl := r0.of_str
    obtain ⟨v, r, rfl, rv, rr⟩ := r1.of_cons
    rw [rr.of_nil]
    rename_i a0 y
    split at h
    · rename_i ys e
      cases e2 : seqOf G y with
      | none => rw [e2] at e; cases e
      | some ds =>
        rw [e2] at e
        obtain ⟨p, vs, rfl, s, rd⟩ := seqOf_ok rg rv e2
        have e3 := strsOf_ok (show strsOf ds = some ys from e)
        subst e3
        rw [rd.of_strs] at s
        exact ⟨_, p, ys, rfl, rfl, s, h.1, q.at rg h.2 (RD.str _)⟩
    · exact h.elim
  · exact h.elim
end
end DL

set_option Elab.async false
set_option linter.all false
set_option maxRecDepth 100000
set_option maxHeartbeats 4000000
set_option autoImplicit false
namespace DL
open PySem PySem.Spec PyProof.Rows L2
/-! ### sets of ints and texts, made of a list or a tuple -/
section
variable {κ : Type} [DecidableEq κ]
/-- each thing once, in the order of coming -/
def uniqStep (acc : List κ) (k : κ) : List κ := if k ∈ acc then acc else acc ++ [k]
def uniq (ks : List κ) : List κ := ks.foldl uniqStep []
end
instance keyLawful : LawfulBEq Key where
  eq_of_beq := fun {a b} h => by
    cases a with
    | inl i => cases b with
      | inl j => exact congrArg Sum.inl (eq_of_beq (show (i == j) = true from h))
      | inr j => exact absurd (show false = true from h) Bool.false_ne_true
    | inr i => cases b with
      | inl j => exact absurd (show false = true from h) Bool.false_ne_true
      | inr j => exact congrArg Sum.inr (eq_of_beq (show (i == j) = true from h))
  rfl := fun {a} => by
    cases a with
    | inl i => exact beq_self_eq_true i
    | inr i => exact beq_self_eq_true i
/-- values that are these keys -/
def KeysAre (us : List Value) (ks : List Key) : Prop := Paired (fun (k : Key) (u : Value) => keyIs k u = true) ks us
theorem KeysAre.len {us : List Value} {ks : List Key} (h : KeysAre us ks) : us.length = ks.length := (Paired.length h).symm
theorem KeysAre.get : ∀ {us : List Value} {ks : List Key} {i : Nat} {v : Value}, KeysAre us ks → us[i]? = some v → ∃ k, ks[i]? = some k ∧ keyIs k v = true
  | _, _, _, _, .nil, e => by simp at e
  | _, _, 0, _, .cons r _, e => by simp at e; subst e; exact ⟨_, rfl, r⟩
  | _, _, i + 1, v, .cons _ t, e => by
    obtain ⟨k, h1, h2⟩ := KeysAre.get (i := i) (v := v) t (by simpa using e)
    exact ⟨k, by simpa using h1, h2⟩
section
variable {prog : Program} {w : World} {A : Around} {R : Result → Shared → Prop} {I : Addr} {fp wr : List Addr} {G : Array GenState → Array GenState → Prop} {n : Nat} {P : Nat → Value → Prop} {St : Nat → Shared → Prop}
end
section
variable {prog : Program} {w : World} {A : Around} {E : Value → Shared → Prop} {s : Shared}
end
end DL

set_option Elab.async false
set_option linter.all false
set_option maxRecDepth 100000
set_option maxHeartbeats 4000000
set_option autoImplicit false
namespace DL
open PySem PySem.Spec PyProof.Rows L2
/-! ### len(set(xs)) -/
def keyD : D → Option Key
  | .int i => some (.inl i) | .str x => some (.inr x) | _ => none
def keysD : List D → Option (List Key)
  | [] => some []
  | d :: ds => match keyD d, keysD ds with | some k, some ks => some (k :: ks) | _, _ => none
section
variable {X : Cx}
def dLenSet (te : DE) : DE := fun σ G R => te σ G fun x G1 => match (seqOf G1 x).bind keysD with | some ks => ks.length + 1 < scanBound ∧ R (.int (uniq ks).length) G1 | none => False
/-! ### what is walked -/
def iSeq (K : PySem.W.Frag) (tl : TE) : TI := fun σ H R => tl σ H fun x H1 => (∃ a, x = .ref a ∧ (∃ xs, SqL K H1 a xs) ∧ R (Itl K a) H1) ∨ (∃ a, x = .ref a ∧ (∃ xs, SqT K H1 a xs) ∧ R (Itt K a) H1) ∨ ∃ z, x = .str z ∧ R (Its z) H1
theorem pi_seq {tg l : Expr} {tl : TE} (hl : PE X l tl) : PI X tg l (iSeq X.K tl) := by
  refine ⟨fun pins s σ H R I h => thn (hl.run pins s σ H _ I h) fun v s1 ⟨x, H1, I1, r1, q1⟩ => ?_⟩
  rcases q1 with ⟨a, e, ⟨xs, hq⟩, q⟩ | ⟨a, e, ⟨xs, hq⟩, q⟩ | ⟨z, e, q⟩
  · subst e
    have hp : PE X l (fun _ _ Q => True) → True := fun _ => True.intro
    cases r1
    obtain ⟨its, rv, p, hz⟩ := I1.list hq
    exact wpAny_pyIter_list p.isList (pi_one (tk := s1.toks) I1 _ (turn_list a _) ⟨_, Heap.get?_push_size _ rfl, rfl, rfl⟩ q)
  · subst e
    cases r1
    obtain ⟨its, rv, p, hz⟩ := I1.tuple hq
    exact wpAny_pyIter_tuple (show s1.heap.IsTuple a its.toArray from p) (pi_one (tk := s1.toks) I1 _ (turn_tuple a _) ⟨_, Heap.get?_push_size _ rfl, rfl, rfl⟩ q)
  · subst e
    obtain ⟨t, rfl⟩ := r1
    cases ha : z.cps.all (· < 128)
    · exact wpAny_pyIter_wide ha (pi_one (tk := s1.toks) I1 _ (turn_str _ z t "str_iterator" (.inr rfl)) ⟨_, Heap.get?_push_size _ rfl, rfl, rfl⟩ q)
    · exact wpAny_pyIter_ascii ha (pi_one (tk := s1.toks) I1 _ (turn_str _ z t "str_ascii_iterator" (.inl rfl)) ⟨_, Heap.get?_push_size _ rfl, rfl, rfl⟩ q)
/-- a text's signsD -/
def signsD (z : Str) : List D := z.cps.toList.map fun c => .str ⟨#[c]⟩
def dIter (te : DE) : DI := fun σ G R => te σ G fun x G1 => match x with
  | .tup ds => R ds (fun _ => True) G1
  | .nt zs => R (zs.map .str) (fun _ => True) G1
  | .lst ds => R ds (fun _ => True) G1
  | .str z => R (signsD z) (fun _ => True) G1
  | .ref a => match G1 a with | some (.lst ds) => R ds (fun G => G a = some (.lst ds)) G1 | _ => False
  | _ => False
theorem yl_list {K : PySem.W.Frag} {H0 : Hp} {N0 : Ns} {G0 : Gp} {a : Addr} {ds : List D} {gd : Gp → Prop} (h : ∀ H N G, Stp K H0 N0 G0 H N G → gd G → ∃ vs, SqL K H a vs ∧ RDs K H N ds vs) : Yl K (Itl K a) H0 N0 G0 ds gd := by
  refine Yl.of (fun i H N G d s g e => ?_) (fun i H N G s g e => ?_)
  · obtain ⟨vs, sq, r⟩ := h H N G s g
    obtain ⟨v, hv, rv⟩ := r.get e
    refine ⟨⟨vs, v, sq, hv⟩, fun x H' y => ?_⟩
    obtain ⟨rfl, y⟩ := y
    have e2 := y vs sq
    rw [hv] at e2; cases e2
    exact ⟨Stp.refl s.rel, rv⟩
  · obtain ⟨vs, sq, r⟩ := h H N G s g
    exact ⟨vs, sq, by rw [← r.length]; exact e⟩
theorem yl_tup {K : PySem.W.Frag} {H0 : Hp} {N0 : Ns} {G0 : Gp} {a : Addr} {ds : List D} {vs : List V} (sq : SqT K H0 a vs) (r : RDs K H0 N0 ds vs) : Yl K (Itt K a) H0 N0 G0 ds fun _ => True := by
  refine Yl.of (fun i H N G d s g e => ?_) (fun i H N G s g e => ?_)
  · obtain ⟨v, hv, rv⟩ := (r.le s.kp).get e
    have sq' := SqT.le s.kp.kle sq
    refine ⟨⟨vs, v, sq', hv⟩, fun x H' y => ?_⟩
    obtain ⟨rfl, y⟩ := y
    have e2 := y vs sq'
    rw [hv] at e2; cases e2
    exact ⟨Stp.refl s.rel, rv⟩
  · exact ⟨vs, SqT.le s.kp.kle sq, by rw [← r.length]; exact e⟩
theorem yl_str {K : PySem.W.Frag} {H0 : Hp} {N0 : Ns} {G0 : Gp} {z : Str} : Yl K (Its z) H0 N0 G0 (signsD z) fun _ => True := by
  refine Yl.of (fun i H N G d s g e => ?_) (fun i H N G s g e => ?_)
  · unfold signsD at e
    rw [List.getElem?_map] at e
    cases ec : z.cps.toList[i]? with
    | none => rw [ec] at e; cases e
    | some c =>
      rw [ec] at e
      cases e
      have ec' : z.cps[i]? = some c := by rw [← Array.getElem?_toList]; exact ec
      refine ⟨(Array.getElem?_eq_some_iff.mp ec').1, fun x H' y => ?_⟩
      obtain ⟨rfl, c', e', rfl⟩ := y
      rw [ec'] at e'; cases e'
      exact ⟨Stp.refl s.rel, RD.str _⟩
  · unfold signsD at e
    rw [List.length_map, Array.length_toList] at e
    exact e
theorem qi_seq {tg l : Expr} {te : DE} (hl : QE X l te) : QI X tg l (dIter te) := pi_mono (pi_seq hl) fun τ H Q h => by
  obtain ⟨σ, G, N, R, hs, hg, ht, q⟩ := h
  refine ⟨σ, G, N, _, hs, hg, ht, fun x G1 N1 v1 H1 h1 s1 r1 => ?_⟩
  split at h1
  · obtain ⟨p, vs, rfl, sq, r⟩ := r1.of_tup
    exact .inr (.inl ⟨p, rfl, ⟨vs, sq⟩, q _ _ _ _ _ _ h1 s1 (yl_tup sq r)⟩)
  · obtain ⟨p, vs, rfl, sq, r⟩ := r1.nt_tup.of_tup
    exact .inr (.inl ⟨p, rfl, ⟨vs, sq⟩, q _ _ _ _ _ _ h1 s1 (yl_tup sq r)⟩)
  · obtain ⟨p, vs, rfl, sq, r⟩ := r1.of_lst
    exact .inl ⟨p, rfl, ⟨vs, sq.sq⟩, q _ _ _ _ _ _ h1 s1 (yl_list fun H N G s _ => ⟨vs, (sq.le s.kp).sq, r.le s.kp⟩)⟩
  · obtain rfl := r1.of_str
    exact .inr (.inr ⟨_, rfl, q _ _ _ _ _ _ h1 s1 yl_str⟩)
  · obtain rfl := r1.of_ref
    split at h1
    · rename_i ds e
      obtain ⟨_, vs, hv, r⟩ := s1.rel _ _ e
      exact .inl ⟨_, rfl, ⟨vs, SqL.of hv⟩, q _ _ _ _ _ _ h1 s1 (yl_list fun H N G s g => by
        obtain ⟨_, vs, hv, r⟩ := s.rel _ _ g
        exact ⟨vs, SqL.of hv, r⟩)⟩
    · exact h1.elim
  · exact h1.elim
/-- range(n) -/
def rng (lo : Int) (n : Nat) : List D := (List.range n).map fun i => .int (lo + (i : Nat))
theorem rng_length (lo : Int) (n : Nat) : (rng lo n).length = n := by unfold rng; rw [List.length_map, List.length_range]
theorem yl_rng {K : PySem.W.Frag} {H0 : Hp} {N0 : Ns} {G0 : Gp} {lo : Int} {n : Nat} : Yl K (Itr lo n) H0 N0 G0 (rng lo n) fun _ => True := by
  refine Yl.of (fun i H N G d s g e => ?_) (fun i H N G s g e => ?_)
  · have hi : i < n := by
      have := (List.getElem?_eq_some_iff.mp e).1
      rwa [rng_length] at this
    unfold rng at e
    rw [List.getElem?_map, List.getElem?_range hi] at e
    cases e
    refine ⟨hi, fun x H' y => ?_⟩
    obtain ⟨rfl, rfl⟩ := y
    exact ⟨Stp.refl s.rel, RD.int _⟩
  · rw [rng_length] at e; exact e
def dRng1 (ta : DA) : DI := fun σ G R => ta σ G fun ds G1 => match ds with | [.int j] => -(2 ^ 62) ≤ j ∧ j < 2 ^ 62 ∧ R (rng 0 j.toNat) (fun _ => True) G1 | _ => False
theorem qi_range1 {tg a : Expr} {ta : DA} {p pos : Pos} (hg : Gl X "range") (hm : X.mg "range" = none) (ha : QA X [a] ta) (hs : starEach [a] X.env = [(false, eval a X.env)] := by rfl) : QI X tg (.Call (.Name "range" p) [a] [] pos) (dRng1 ta) := pi_mono (pi_range1 hg hm ha hs) fun τ H Q h => by
  obtain ⟨σ, G, N, R, hs, hg, ht, q⟩ := h
  refine ⟨σ, G, N, _, hs, hg, ht, fun ds G1 N1 vs H1 h1 s1 r1 => ?_⟩
  split at h1
  · rename_i j
    obtain ⟨v, r, rfl, r2, r3⟩ := r1.of_cons
    rw [r3.of_nil, r2.of_int]
    exact ⟨j, rfl, h1.1, h1.2.1, q _ _ _ _ _ _ h1.2.2 s1 yl_rng⟩
  · exact h1.elim
/-- enumerate(list) -/
def enumD (lo : Int) : List D → List D
  | [] => []
  | d :: ds => .tup [.int lo, d] :: enumD (lo + 1) ds
def dEnum (ta : DA) : DI := fun σ G R => ta σ G fun ds G1 => match ds with
  | [.lst xs] => R (enumD 0 xs) (fun _ => True) G1
  | [.ref a] => (match G1 a with | some (.lst xs) => R (enumD 0 xs) (fun G => G a = some (.lst xs)) G1 | _ => False)
  | _ => False
/-! ### f(k = v, ..) -/
variable {k : Nat} {f : Addr} {fd : FuncData} {ps ks : List Str} {sp : DSp} {x : Str} {p pos : Pos} {kws : List Keyword} {tk : DA}
/-- by names alone: the promise is asked at the values in the parameters' order (g) -/
def dCallK (sp : DSp) (g : List D → List D) (n : Nat) (tk : DA) : DE := fun σ G R => tk σ G fun ds G1 => ds.length = n ∧ sp (g ds) G1 R
end
end DL

set_option Elab.async false
set_option linter.all false
set_option maxRecDepth 100000
set_option maxHeartbeats 4000000
set_option autoImplicit false
namespace DL
open PySem PySem.Spec PyProof.Rows L2
section
variable {X : Cx}
end
end DL

set_option Elab.async false
set_option linter.all false
set_option maxRecDepth 100000
set_option maxHeartbeats 4000000
set_option autoImplicit false
namespace DL
open PySem PySem.Spec PyProof.Rows L2
/-! ### readings -/
theorem at_K {K : PySem.W.Frag} {h : Heap} (_ : K.In h) (Q : PySem.W.Frag → Prop) (q : Q K) : Q K := q
theorem ret_same {R : DK} {d : D} {G : Gp} (h : R d G) : ∃ d' G', Wk G d d' G' ∧ R d' G' := ⟨d, G, .same (Sub.refl G), h⟩
theorem ret_sub {R : DK} {d : D} {G G0 : Gp} (s : Sub G0 G) (h : R d G0) : ∃ d' G', Wk G d d' G' ∧ R d' G' := ⟨d, G0, .same s, h⟩
theorem ret_lst {R : DK} {p : Addr} {ds : List D} {G G0 : Gp} (e : G p = some (.lst ds)) (s : Sub G0 G) (n : G0 p = none) (h : R (.lst ds) G0) : ∃ d' G', Wk G (.ref p) d' G' ∧ R d' G' := ⟨_, G0, .lst e s n, h⟩
theorem gup_comm {G : Gp} {a b : Addr} {o u : GO} (h : a ≠ b) : gup (gup G a o) b u = gup (gup G b u) a o := by
  funext c; unfold gup
  by_cases e1 : c = b
  · by_cases e2 : c = a
    · exact absurd (e2.symm.trans e1) h
    · rw [if_pos e1, if_neg e2, if_pos e1]
  · by_cases e2 : c = a
    · rw [if_neg e1, if_pos e2, if_pos e2]
    · rw [if_neg e1, if_neg e2, if_neg e2, if_neg e1]
/-! ### plain data -/
def isStr : D → Bool | .str _ => true | _ => false
/-! ### == of data -/
mutual
def pyD : D → Bool
  | .non => true | .bl _ => true | .int _ => true | .str z => z.cps.toList.all fun c => decide (c < 1114112)
  | .tup ds => pyDs ds
  | .lst ds => pyDs ds
  | _ => false
def pyDs : List D → Bool
  | [] => true
  | d :: ds => pyD d && pyDs ds
end
mutual
def depD : D → Nat
  | .tup ds => depDs ds + 1
  | .lst ds => depDs ds + 1
  | _ => 0
def depDs : List D → Nat
  | [] => 0
  | d :: ds => max (depD d) (depDs ds)
end
mutual
def eqD : D → D → Bool
  | .non, .non => true
  | .bl a, .bl b => a == b
  | .bl a, .int j => (if a then 1 else 0) == j
  | .int i, .bl b => i == (if b then 1 else 0)
  | .int i, .int j => i == j
  | .str x, .str y => x == y
  | .tup xs, .tup ys => eqDs xs ys
  | .lst xs, .lst ys => eqDs xs ys
  | _, _ => false
def eqDs : List D → List D → Bool
  | [], [] => true
  | x :: xs, y :: ys => eqD x y && eqDs xs ys
  | _, _ => false
end
mutual
theorem toPy_pure : ∀ {d : D}, pyD d = true → ∃ a, toPy d = some a ∧ a.canLay0 = true ∧ a.depth = depD d
  | .non, _ => ⟨.none, by simp only [toPy], by simp [PyData.canLay0], by simp [PyData.depth, depD]⟩
  | .bl b, _ => ⟨.bool b, by simp only [toPy], by simp [PyData.canLay0], by simp [PyData.depth, depD]⟩
  | .int i, _ => ⟨.int i, by simp only [toPy], by simp [PyData.canLay0], by simp [PyData.depth, depD]⟩
  | .str z, h => ⟨.str z, by simp only [toPy], by
      simp only [pyD] at h
      simp only [PyData.canLay0, PyData.strOk]
      rw [← Array.all_toList]
      exact h, by simp [PyData.depth, depD]⟩
  | .tup ds, h => by
    simp only [pyD] at h
    obtain ⟨as, h1, h2, h3⟩ := toPys_pure h
    exact ⟨.tuple as, by simp only [toPy, h1, Option.map_some], by simpa [PyData.canLay0] using h2, by simp only [PyData.depth, depD, h3]⟩
  | .lst ds, h => by
    simp only [pyD] at h
    obtain ⟨as, h1, h2, h3⟩ := toPys_pure h
    exact ⟨.list as, by simp only [toPy, h1, Option.map_some], by simpa [PyData.canLay0] using h2, by simp only [PyData.depth, depD, h3]⟩
  | .ty _, h => by simp [pyD] at h
  | .ref _, h => by simp [pyD] at h
  | .any _, h => by simp [pyD] at h
theorem toPys_pure : ∀ {ds : List D}, pyDs ds = true → ∃ as, toPys ds = some as ∧ PyData.canLayAll0 as = true ∧ PyData.depthAll as = depDs ds
  | [], _ => ⟨[], by simp only [toPys], by simp [PyData.canLayAll0], by simp [PyData.depthAll, depDs]⟩
  | d :: ds, h => by
    simp only [pyDs, Bool.and_eq_true] at h
    obtain ⟨a, h1, h2, h3⟩ := toPy_pure h.1
    obtain ⟨as, h4, h5, h6⟩ := toPys_pure h.2
    exact ⟨a :: as, by simp only [toPys, h1, h4], by simp [PyData.canLayAll0, h2, h5], by simp only [PyData.depthAll, depDs, h3, h6]⟩
end
def ShapeOf (c : D) (a : PyData) : Prop := match c with
  | .non => a = .none | .bl b => a = .bool b | .int i => a = .int i | .str z => a = .str z
  | .tup ds => ∃ as, a = .tuple as ∧ toPys ds = some as
  | .lst ds => ∃ as, a = .list as ∧ toPys ds = some as
  | _ => False
theorem toPy_shape {c : D} {a : PyData} (h : toPy c = some a) : ShapeOf c a := by
  cases c with
  | tup ds =>
    simp only [toPy] at h
    cases e1 : toPys ds with
    | none => rw [e1] at h; cases h
    | some as => rw [e1] at h; cases h; exact ⟨as, rfl, e1⟩
  | lst ds =>
    simp only [toPy] at h
    cases e1 : toPys ds with
    | none => rw [e1] at h; cases h
    | some as => rw [e1] at h; cases h; exact ⟨as, rfl, e1⟩
  | _ => simp only [toPy] at h <;> first | (cases h; done) | (cases h; rfl)
mutual
theorem eqv_eqD : ∀ {c d : D} {a b : PyData}, toPy c = some a → toPy d = some b → PyData.eqv a b = eqD c d
  | .tup xs, .tup ys, a, b, h1, h2 => by
    obtain ⟨as, rfl, e1⟩ := toPy_shape h1
    obtain ⟨bs, rfl, e2⟩ := toPy_shape h2
    simp only [PyData.eqv, eqD]
    exact eqv_eqDs e1 e2
  | .lst xs, .lst ys, a, b, h1, h2 => by
    obtain ⟨as, rfl, e1⟩ := toPy_shape h1
    obtain ⟨bs, rfl, e2⟩ := toPy_shape h2
    simp only [PyData.eqv, eqD]
    exact eqv_eqDs e1 e2
  | .tup xs, .lst ys, a, b, h1, h2 => by
    obtain ⟨as, rfl, e1⟩ := toPy_shape h1
    obtain ⟨bs, rfl, e2⟩ := toPy_shape h2
    simp only [PyData.eqv, eqD]
  | .lst xs, .tup ys, a, b, h1, h2 => by
    obtain ⟨as, rfl, e1⟩ := toPy_shape h1
    obtain ⟨bs, rfl, e2⟩ := toPy_shape h2
    simp only [PyData.eqv, eqD]
  | .tup xs, .non, a, b, h1, h2 | .tup xs, .bl _, a, b, h1, h2 | .tup xs, .int _, a, b, h1, h2 | .tup xs, .str _, a, b, h1, h2
  | .lst xs, .non, a, b, h1, h2 | .lst xs, .bl _, a, b, h1, h2 | .lst xs, .int _, a, b, h1, h2 | .lst xs, .str _, a, b, h1, h2 => by
    obtain ⟨as, rfl, e1⟩ := toPy_shape h1
    have s2 := toPy_shape h2
    simp only [ShapeOf] at s2
    subst s2
    simp only [PyData.eqv, eqD]
  | .non, .tup ys, a, b, h1, h2 | .bl _, .tup ys, a, b, h1, h2 | .int _, .tup ys, a, b, h1, h2 | .str _, .tup ys, a, b, h1, h2
  | .non, .lst ys, a, b, h1, h2 | .bl _, .lst ys, a, b, h1, h2 | .int _, .lst ys, a, b, h1, h2 | .str _, .lst ys, a, b, h1, h2 => by
    obtain ⟨bs, rfl, e1⟩ := toPy_shape h2
    have s1 := toPy_shape h1
    simp only [ShapeOf] at s1
    subst s1
    simp only [PyData.eqv, eqD]
  | .ty _, _, a, b, h1, h2 | .ref _, _, a, b, h1, h2 | .any _, _, a, b, h1, h2 => (toPy_shape h1).elim
  | _, .ty _, a, b, h1, h2 | _, .ref _, a, b, h1, h2 | _, .any _, a, b, h1, h2 => (toPy_shape h2).elim
  | .non, .non, a, b, h1, h2 | .non, .bl _, a, b, h1, h2 | .non, .int _, a, b, h1, h2 | .non, .str _, a, b, h1, h2
  | .bl _, .non, a, b, h1, h2 | .bl _, .bl _, a, b, h1, h2 | .bl _, .int _, a, b, h1, h2 | .bl _, .str _, a, b, h1, h2
  | .int _, .non, a, b, h1, h2 | .int _, .bl _, a, b, h1, h2 | .int _, .int _, a, b, h1, h2 | .int _, .str _, a, b, h1, h2
  | .str _, .non, a, b, h1, h2 | .str _, .bl _, a, b, h1, h2 | .str _, .int _, a, b, h1, h2 | .str _, .str _, a, b, h1, h2 => by
    have s1 := toPy_shape h1
    have s2 := toPy_shape h2
    simp only [ShapeOf] at s1 s2
    subst s1 s2
    simp only [PyData.eqv, eqD]
theorem eqv_eqDs : ∀ {cs ds : List D} {as bs : List PyData}, toPys cs = some as → toPys ds = some bs → PyData.eqvAll as bs = eqDs cs ds
  | [], [], _, _, h1, h2 => by simp only [toPys] at h1 h2; cases h1; cases h2; simp only [PyData.eqvAll, eqDs]
  | [], d :: ds, _, _, h1, h2 => by
    simp only [toPys] at h1 h2
    split at h2
    · cases h1; cases h2; simp only [PyData.eqvAll, eqDs]
    · cases h2
  | c :: cs, [], _, _, h1, h2 => by
    simp only [toPys] at h1 h2
    split at h1
    · cases h1; cases h2; simp only [PyData.eqvAll, eqDs]
    · cases h1
  | c :: cs, d :: ds, _, _, h1, h2 => by
    simp only [toPys] at h1 h2
    split at h1
    · split at h2
      · rename_i a as e1 e2 _ _ b bs e3 e4
        cases h1; cases h2
        simp only [PyData.eqvAll, eqDs, eqv_eqD e1 e3, eqv_eqDs e2 e4]
      · cases h2
    · cases h1
end
theorem gPy_pure {G : Gp} {d : D} (h : pyD d = true) : gPy G d = toPy d := by
  cases d with
  | ref a => simp [pyD] at h
  | _ => rfl
theorem eqD_scal_int (i j : Int) : eqD (.int i) (.int j) = decide (i = j) := by simp only [eqD]; rw [Bool.eq_iff_iff]; simp
theorem eqD_scal_str (i j : Str) : eqD (.str i) (.str j) = decide (i = j) := by simp only [eqD]; rw [Bool.eq_iff_iff]; simp
theorem eqD_scal_bl (i j : Bool) : eqD (.bl i) (.bl j) = decide (i = j) := by simp only [eqD]; rw [Bool.eq_iff_iff]; simp
theorem eqW_pure {f : Bool → Bool} {c d : D} {G : Gp} {R : DK} (hc : pyD c = true) (hd : pyD d = true) (lc : depD c ≤ 64) (ld : depD d ≤ 64) : dEqW f c d G R ↔ R (.bl (f (eqD c d))) G := by
  unfold dEqW
  split
  · rw [eqD_scal_int]
  · rw [eqD_scal_str]
  · rw [eqD_scal_bl]
  · simp only [eqD]
  · obtain ⟨a, h1, h2, h3⟩ := toPy_pure hc
    obtain ⟨b, h4, h5, h6⟩ := toPy_pure hd
    rw [gPy_pure hc, gPy_pure hd, h1, h4]
    simp only [eqv_eqD h1 h4]
    have s1 : SeqAt.shaped a = true := by unfold SeqAt.shaped; rw [h2, h3, decide_eq_true lc]; rfl
    have s2 : SeqAt.shaped b = true := by unfold SeqAt.shaped; rw [h5, h6, decide_eq_true ld]; rfl
    exact ⟨fun z => z.2.2, fun z => ⟨s1, s2, z⟩⟩
theorem ne_pure {c d : D} {G : Gp} {R : DK} (hc : pyD c = true) (hd : pyD d = true) (lc : depD c ≤ 64) (ld : depD d ≤ 64) : dNe c d G R ↔ R (.bl (!eqD c d)) G := eqW_pure hc hd lc ld
theorem small_line {n : Nat} (h : n ≤ 1000) : n ≤ sizeLine := Nat.le_of_lt (small1000 h)
theorem len_tup {ds : List D} {G : Gp} {R : DK} : dLen [.tup ds] G R ↔ R (.int ds.length) G := by unfold dLen; simp only [seqOf]
theorem len_lst {ds : List D} {G : Gp} {R : DK} : dLen [.lst ds] G R ↔ R (.int ds.length) G := by unfold dLen; simp only [seqOf, lstOf]
theorem len_ref {p : Addr} {ds : List D} {G : Gp} {R : DK} (e : G p = some (.lst ds)) : dLen [.ref p] G R ↔ R (.int ds.length) G := by unfold dLen; simp only [seqOf, lstOf, e]
/-! ### cuts and loops -/
theorem seq_cut {t u : DS} {E : DEnds} {σ : Sd} {G : Gp} (M : Sd → Gp → Prop) (h1 : ∀ σ' G', M σ' G' → u E σ' G') (h2 : ∀ N : Sd → Gp → Prop, (∀ σ' G', M σ' G' → N σ' G') → t { E with nx := N } σ G) : dSeq t u E σ G := h2 (u E) h1
theorem wh_go {c : DT} {tb : DS} {E : DEnds} (I : Nat → Sd → Gp → Prop)
    (turn : ∀ n σ G, I n σ G → ∀ N : Sd → Gp → Prop, (∀ k σ' G', n = k + 1 → I k σ' G' → N σ' G') → c σ G fun b G1 => match b with | true => tb { E with nx := N, ct := N, bk := E.nx } σ G1 | false => E.nx σ G1) :
    ∀ (n : Nat) (σ : Sd) (G : Gp), I n σ G → dWhN c tb E (n + 1) σ G
  | 0, σ, G, h => turn 0 σ G h _ fun k _ _ e => by omega
  | n + 1, σ, G, h => turn (n + 1) σ G h _ fun k σ' G' e i => by
    have : k = n := by omega
    subst this
    exact wh_go I turn k σ' G' i
/-- a comprehension by an invariant -/
theorem lc_go {g : DG} {tt : DT} {te : DE} {gd : Gp → Prop} {σ : Sd} {Q : List D → Gp → Prop} (I : List D → List D → Gp → Prop)
    (turn : ∀ x xs acc G, I (x :: xs) acc G → gd G ∧ ∀ N : List D → Gp → Prop, (∀ acc' G', I xs acc' G' → N acc' G') → g x σ G fun σ2 G2 => tt σ2 G2 fun b G3 => match b with | true => te σ2 G3 fun y G4 => N (acc ++ [y]) G4 | false => N acc G3)
    (fin : ∀ acc G, I [] acc G → gd G ∧ Q acc G) : ∀ (xs acc : List D) (G : Gp), I xs acc G → dLcGo g tt te gd σ xs acc G Q
  | [], acc, G, h => fin acc G h
  | x :: xs, acc, G, h => ⟨(turn x xs acc G h).1, (turn x xs acc G h).2 _ fun acc' G' i => lc_go I turn fin xs acc' G' i⟩
/-! ### texts by their signs' numbers -/
abbrev cds (z : Str) : List Nat := z.cps.toList
theorem cds_len (z : Str) : (cds z).length = z.length := Array.length_toList
theorem cds_app (a b : Str) : cds (a ++ b) = cds a ++ cds b := by show (a.cps ++ b.cps).toList = _; simp
theorem cds_cut (z : Str) (lo hi : Option Int) : cds (cutS z lo hi) = cutL (cds z) lo hi := by
  unfold cutS cutL
  rw [cds_len]
theorem cds_join (sep : Str) : ∀ zs : List Str, cds (Txt.join sep zs) = ((zs.map cds).intersperse (cds sep)).flatten := by
  intro zs
  rw [show Txt.join sep zs = Str.join sep zs from PySem.StrLaws.glued_eq_join sep zs]
  induction zs with
  | nil => rfl
  | cons x r ih =>
    cases r with
    | nil => simp [Str.join]
    | cons y r =>
      show cds (x ++ sep ++ Str.join sep (y :: r)) = _
      rw [cds_app, cds_app, ih]
      simp
theorem cds_join0 {sep : Str} (h : cds sep = []) (zs : List Str) : cds (Txt.join sep zs) = (zs.map cds).flatten := by
  rw [cds_join, h]
  generalize zs.map cds = l
  induction l with
  | nil => rfl
  | cons x r ih =>
    cases r with
    | nil => simp
    | cons y r => simp [List.intersperse] at ih ⊢; rw [ih]
theorem atI_neg1 {α : Type} {xs : List α} {x : α} (h : xs.getLast? = some x) : atI xs (-1) = some x := by
  have hne : xs ≠ [] := fun z => by subst z; cases h
  have e := List.dropLast_concat_getLast hne
  rw [List.getLast?_eq_getLast hne] at h
  rw [← e]
  have := atI_last xs.dropLast (xs.getLast hne)
  rw [this]; exact h
theorem nodup_sub {α : Type} : ∀ {l1 l2 : List α}, l1.Nodup → (∀ x ∈ l1, x ∈ l2) → l1.length ≤ l2.length
  | [], _, _, _ => Nat.zero_le _
  | a :: l1, l2, hn, hs => by
    obtain ⟨s, t, rfl⟩ := List.append_of_mem (hs a List.mem_cons_self)
    have hn2 := List.nodup_cons.mp hn
    have := nodup_sub (l1 := l1) (l2 := s ++ t) hn2.2 fun x hx => by
      have := hs x (List.mem_cons_of_mem _ hx)
      simp only [List.mem_append, List.mem_cons] at this ⊢
      rcases this with h | h | h
      · exact .inl h
      · subst h; exact absurd hx hn2.1
      · exact .inr h
    simp only [List.length_append, List.length_cons] at this ⊢
    omega
/-! ### operators at what is known -/
section
variable {mk : Bool} {i j : Int} {a b : Str} {x y : Bool} {as bs : List D} {d : D} {G : Gp} {R : DK}
theorem dAdd_ii : dAdd mk (.int i) (.int j) G R = R (.int (i + j)) G := rfl
theorem dAdd_ss : dAdd mk (.str a) (.str b) G R = (a.length + b.length ≤ sizeLine ∧ R (.str (a ++ b)) G) := rfl
theorem dAdd_tt : dAdd mk (.tup as) (.tup bs) G R = (as.length + bs.length ≤ sizeLine ∧ R (.tup (as ++ bs)) G) := rfl
theorem dAdd_ll : dAdd mk (.lst as) (.lst bs) G R = (as.length + bs.length ≤ sizeLine ∧ newL mk (as ++ bs) G R) := rfl
theorem dMinus_ii : dMinus (.int i) (.int j) G R = R (.int (i - j)) G := rfl
theorem dMul_ii : dMul (.int i) (.int j) G R = (IntMulOk i j ∧ R (.int (i * j)) G) := rfl
theorem dMod_ii : dMod (.int i) (.int j) G R = (0 < j ∧ R (.int (i % j)) G) := rfl
theorem dFdiv_ii : dFdiv (.int i) (.int j) G R = (CDivW i j ∧ R (.int (i / j)) G) := rfl
theorem dPow_ii : dPow (.int i) (.int j) G R = (CPowX i j ∧ R (.int (i ^ j.toNat)) G) := rfl
theorem dShl_ii : dShl (.int i) (.int j) G R = (CShl i j ∧ R (.int (i * 2 ^ j.toNat)) G) := rfl
theorem dNeg_i : dNeg (.int i) G R = R (.int (-i)) G := rfl
theorem dIadd_ii : dIadd (.int i) (.int j) G R = R (.int (i + j)) G := rfl
theorem dLt_ii : dLt (.int i) (.int j) G R = R (.bl (decide (i < j))) G := rfl
theorem dLe_ii : dLe (.int i) (.int j) G R = R (.bl (decide (i ≤ j))) G := rfl
theorem dGt_ii : dGt (.int i) (.int j) G R = R (.bl (decide (j < i))) G := rfl
theorem dGe_ii : dGe (.int i) (.int j) G R = R (.bl (decide (j ≤ i))) G := rfl
theorem dEq_ii : dEq (.int i) (.int j) G R = R (.bl (decide (i = j))) G := rfl
theorem dNe_ii : dNe (.int i) (.int j) G R = R (.bl (!decide (i = j))) G := rfl
theorem dEq_ss : dEq (.str a) (.str b) G R = R (.bl (decide (a = b))) G := rfl
theorem dNe_ss : dNe (.str a) (.str b) G R = R (.bl (!decide (a = b))) G := rfl
theorem dEq_bb : dEq (.bl x) (.bl y) G R = R (.bl (decide (x = y))) G := rfl
theorem dNe_bb : dNe (.bl x) (.bl y) G R = R (.bl (!decide (x = y))) G := rfl
theorem dIs_n : dIs d .non G R = R (.bl (isNon d)) G := rfl
theorem dIsNot_n : dIsNot d .non G R = R (.bl (!isNon d)) G := rfl
theorem dMax2_ii : dMax2 [.int i, .int j] G R = R (.int (if j > i then j else i)) G := rfl
theorem dMin2_ii : dMin2 [.int i, .int j] G R = R (.int (if j < i then j else i)) G := rfl
theorem dTuple_t : dTuple [.tup as] G R = R (.tup as) G := rfl
theorem dTuple_l : dTuple [.lst as] G R = R (.tup as) G := rfl
theorem dList_t : dList mk [.tup as] G R = newL mk as G R := rfl
theorem dList_l : dList mk [.lst as] G R = newL mk as G R := rfl
theorem dIx_t : dIx (.tup as) (.int i) G R = (match atI as i with | some d => R d G | none => False) := rfl
theorem dIx_l : dIx (.lst as) (.int i) G R = (match atI as i with | some d => R d G | none => False) := rfl
theorem dIx_s : dIx (.str a) (.int i) G R = (a.length ≤ sizeLine ∧ (match atI a.cps.toList i with | some c => R (.str ⟨#[c]⟩) G | none => False)) := rfl
theorem dSl_t {lo hi : Option Int} : dSl mk (.tup as) lo hi G R = R (.tup (cutL as lo hi)) G := rfl
theorem dSl_l {lo hi : Option Int} : dSl mk (.lst as) lo hi G R = newL mk (cutL as lo hi) G R := rfl
theorem dSl_s {lo hi : Option Int} : dSl mk (.str a) lo hi G R = (a.length ≤ sizeLine ∧ R (.str (cutS a lo hi)) G) := rfl
theorem newL_f : newL false as G R = R (.lst as) G := rfl
end
end DL

set_option Elab.async false
set_option linter.all false
set_option maxRecDepth 100000
set_option maxHeartbeats 4000000
set_option autoImplicit false
namespace DL
open PySem PySem.Spec PyProof.Rows L2
/-! ### a block within a block -/
/-! ### names in another order -/
def permL {α : Type} (js : List Nat) (l : List α) : List α := js.filterMap fun i => l[i]?
/-! ### zip -/
def zipD : List D → List D → List D
  | x :: xs, y :: ys => .tup [x, y] :: zipD xs ys
  | _, _ => []
variable {X : Cx}
end DL

set_option Elab.async false
set_option linter.all false
set_option maxRecDepth 100000
set_option maxHeartbeats 4000000
set_option autoImplicit false
namespace DL
open PySem PySem.Spec PyProof.Rows L2
/-! ### a, *b = a tuple or a list -/
section
variable {prog : Program} {w : World} {A : Around} {E : Value → Shared → Prop} {s : Shared}
end
section
variable {X : Cx} {pos : Pos}
end
section
variable {X : Cx} {pos : Pos}
def starD (n i : Nat) (ds : List D) : List D := ds.take i ++ [.lst ((ds.drop i).take (ds.length + 1 - n))] ++ (ds.drop i).drop (ds.length + 1 - n)
def dStar (n i : Nat) (is : List Nat) : DG := fun d σ G R => match d with
  | .tup ds => n ≤ ds.length + 1 ∧ R (setAll σ is (starD n i ds)) G
  | .lst ds => n ≤ ds.length + 1 ∧ R (setAll σ is (starD n i ds)) G
  | _ => False
theorem starD_one (d : D) (ds : List D) : starD 2 1 (d :: ds) = [d, .lst ds] := by
  unfold starD
  simp
end
end DL

set_option Elab.async false
set_option linter.all false
set_option maxRecDepth 100000
set_option maxHeartbeats 4000000
set_option autoImplicit false
namespace DL
open PySem PySem.Spec PyProof.Rows L2
/-! ### the module's tuples and dicts -/
/-- what stands written: the value u is the data d, whatever else stands -/
def Kc (K : PySem.W.Frag) (d : D) (u : Value) : Prop := ∃ v, RelV v u ∧ ∀ H N, RD K H N d v
variable {X : Cx}
def dInK (d : Addr) (kvs : List (Str × D)) (f : Bool → Bool) : DR2 := fun x y G R => match x with | .str z => y = .ref d ∧ R (.bl (f (kvs.lookup z).isSome)) G | _ => False
def dIxK (d : Addr) (kvs : List (Str × D)) : DR2 := fun x y G R => match y with | .str z => x = .ref d ∧ (match kvs.lookup z with | some v => R v G | none => False) | _ => False
inductive KvOk (K : PySem.W.Frag) : List (Str × D) → List (Str × Tok × Value) → Prop where
  | nil : KvOk K [] []
  | cons {k : Str} {t : Tok} {v : Value} {x : D} {kvs : List (Str × D)} {l : List (Str × Tok × Value)} : Kc K x v → KvOk K kvs l → KvOk K ((k, x) :: kvs) ((k, t, v) :: l)
end DL

set_option Elab.async false
set_option linter.all false
set_option maxRecDepth 100000
set_option maxHeartbeats 4000000
set_option autoImplicit false
namespace DL
open PySem PySem.Spec PyProof.Rows L2
/-! ### zip of lists and tuples in any mix: the kind of a source is told by a Bool (true: a list) -/
/-- a source, told by data -/
def srcD (G : Gp) : D → Option (Bool × List D × (Gp → Prop))
  | .tup ds => some (false, ds, fun _ => True)
  | .nt zs => some (false, zs.map .str, fun _ => True)
  | .lst ds => some (true, ds, fun _ => True)
  | .ref a => match G a with | some (.lst ds) => some (true, ds, fun G => G a = some (.lst ds)) | _ => none
  | _ => none
def dZipM (ta : DA) : DI := fun σ G R => ta σ G fun ds G1 => match ds with
  | [x, y] => (match srcD G1 x, srcD G1 y with | some (_, xs, g1), some (_, ys, g2) => R (zipD xs ys) (fun G => g1 G ∧ g2 G) G1 | _, _ => False)
  | _ => False
end DL

set_option Elab.async false
set_option linter.all false
set_option maxRecDepth 100000
set_option maxHeartbeats 4000000
set_option autoImplicit false
namespace DL
open PySem PySem.Spec PyProof.Rows L2
/-! ### == of a dict and a text -/
section
variable {A : Around} {s : Shared}
end
variable {X : Cx}
end DL

set_option Elab.async false
set_option linter.all false
set_option maxRecDepth 100000
set_option maxHeartbeats 4000000
set_option autoImplicit false
namespace DL
open PySem PySem.Spec PyProof.Rows L2
/-! ### steps in applied form -/
/-- what goes on, kept shut -/
def Kont (P : Sd → Gp → Prop) : Sd → Gp → Prop := P
theorem kont_go {P : Sd → Gp → Prop} {σ : Sd} {G : Gp} (h : P σ G) : Kont P σ G := h
def br (b : Bool) (A B : Prop) : Prop := match b with | true => A | false => B
def isB (x : D) (k : Bool → Prop) : Prop := match x with | .bl b => k b | _ => False
def isI (x : D) (k : Int → Prop) : Prop := match x with | .int b => k b | _ => False
def isN (x : Option D) (k : D → Prop) : Prop := match x with | some b => k b | none => False
def slo (x : Option (Option D)) (k : D → Prop) : Prop := match x with | some (some d) => k d | _ => False
section
variable {A B : Prop} {b c : Bool} {k : Bool → Prop} {ki : Int → Prop} {kd : D → Prop} {i : Int} {d : D}
theorem br_t : br true A B = A := rfl
theorem br_f : br false A B = B := rfl
theorem br_not : br (!b) A B = br b B A := by cases b <;> rfl
theorem br_dec {P : Prop} [Decidable P] : br (decide P) A B = if P then A else B := by
  by_cases h : P
  · rw [decide_eq_true h, if_pos h]; rfl
  · rw [decide_eq_false h, if_neg h]; rfl
theorem br_and : br (b && c) A B = br b (br c A B) B := by cases b <;> rfl
theorem br_or : br (b || c) A B = br b A (br c A B) := by cases b <;> rfl
theorem isB_bl : isB (.bl b) k = k b := rfl
theorem isI_int : isI (.int i) ki = ki i := rfl
theorem isN_some : isN (some d) kd = kd d := rfl
theorem slo_some : slo (some (some d)) kd = kd d := rfl
end
section
variable {σ : Sd} {G : Gp} {R : DK} {Rb : Bool → Gp → Prop} {Ra : List D → Gp → Prop} {Rg : Sd → Gp → Prop} {E : DEnds} {i : Nat} {d : D} {ta tb tc : DE} {c c' : DT} {tr : DA} {r r' : DR2} {r1 : DR1} {s t u : DS} {g : DG} {ti : DI} {mk : Bool} {rn : DRn} {sp : DSp}
theorem x_var : dVar i σ G R = slo σ[i]? fun d => R d G := rfl
theorem x_c : dC d σ G R = R d G := rfl
theorem x_op : dOp r ta tb σ G R = ta σ G fun x G1 => tb σ G1 fun y G2 => r x y G2 R := rfl
theorem x_un : dUn r1 ta σ G R = ta σ G fun x G1 => r1 x G1 R := rfl
theorem x_b : dB ta σ G Rb = ta σ G fun x G1 => isB x fun b => Rb b G1 := rfl
theorem x_and : dAnd c c' σ G Rb = c σ G fun b G1 => br b (c' σ G1 Rb) (Rb false G1) := rfl
theorem x_or : dOr c c' σ G Rb = c σ G fun b G1 => br b (Rb true G1) (c' σ G1 Rb) := rfl
theorem x_not : dNot c σ G Rb = c σ G fun b G1 => Rb (!b) G1 := rfl
def isBB (x : D) (A B : Prop) : Prop := match x with | .bl true => A | .bl false => B | _ => False
theorem isBB_bl {b : Bool} {A B : Prop} : isBB (.bl b) A B = br b A B := by cases b <;> rfl
theorem x_chain : dChain r r' ta tb tc σ G R = ta σ G fun x G1 => tb σ G1 fun y G2 => r x y G2 fun z G3 => isBB z (tc σ G3 fun w G4 => r' y w G4 R) (R (.bl false) G3) := rfl
theorem x_andV : dAndV ta tb σ G R = ta σ G fun x G1 => isBB x (tb σ G1 R) (R (.bl false) G1) := rfl
theorem x_orV : dOrV ta tb σ G R = ta σ G fun x G1 => isBB x (R (.bl true) G1) (tb σ G1 R) := rfl
theorem x_notV : dNotV ta σ G R = ta σ G fun x G1 => isB x fun b => R (.bl (!b)) G1 := rfl
theorem x_if : dIf c ta tb σ G R = c σ G fun b G1 => br b (ta σ G1 R) (tb σ G1 R) := rfl
theorem x_nil : dNil σ G Ra = Ra [] G := rfl
theorem x_cons : dCons ta tr σ G Ra = ta σ G fun x G1 => tr σ G1 fun xs G2 => Ra (x :: xs) G2 := rfl
theorem x_tup : dTup tr σ G R = tr σ G fun ds G1 => ds.length ≤ sizeLine ∧ R (.tup ds) G1 := rfl
theorem x_lst0 : dLst false tr σ G R = tr σ G fun ds G1 => ds.length ≤ sizeLine ∧ R (.lst ds) G1 := rfl
theorem x_lst1 : dLst true tr σ G R = tr σ G fun ds G1 => ds.length ≤ sizeLine ∧ ∀ p, G1 p = none → R (.ref p) (gup G1 p (.lst ds)) := rfl
theorem x_callB : dCallB rn tr σ G R = tr σ G fun ds G1 => rn ds G1 R := rfl
theorem x_call : dCall sp tr σ G R = tr σ G fun ds G1 => sp ds G1 R := rfl
theorem x_callK {f : List D → List D} {n : Nat} : dCallK sp f n tr σ G R = tr σ G fun ds G1 => ds.length = n ∧ sp (f ds) G1 R := rfl
theorem x_next : dNext E σ G = E.nx σ G := rfl
theorem x_seq : dSeq t u E σ G = t { E with nx := Kont (u E) } σ G := rfl
theorem x_break : dBreak E σ G = E.bk σ G := rfl
theorem x_cont : dCont E σ G = E.ct σ G := rfl
theorem x_drop : dDrop ta E σ G = ta σ G fun _ G1 => E.nx σ G1 := rfl
/-- what is told, with what is still known: Wk -/
def Rt (R : DK) (d : D) (G : Gp) : Prop := ∃ d' G', Wk G d d' G' ∧ R d' G'
theorem rt_same {R : DK} {d : D} {G : Gp} (h : R d G) : Rt R d G := ret_same h
theorem x_ret : dRet ta E σ G = ta σ G fun d G1 => Rt E.rt d G1 := rfl
theorem x_ifS : dIfS c t u E σ G = c σ G fun b G1 => br b (t E σ G1) (u E σ G1) := rfl
theorem x_asg : dAsg ta g E σ G = ta σ G fun x G1 => g x σ G1 E.nx := rfl
theorem x_name : dName i d σ G Rg = Rg (σ.set i (some d)) G := rfl
theorem x_names {is : List Nat} {ds : List D} : dNames is (.tup ds) σ G Rg = (ds.length = is.length ∧ Rg (setAll σ is ds) G) := rfl
theorem x_sub {rs : DSet} : dSub ta tb rs d σ G Rg = ta σ G fun o G1 => tb σ G1 fun i G2 => rs o i d G2 fun G3 => Rg σ G3 := rfl
theorem x_aug : dAug i ta r E σ G = slo σ[i]? fun x => ta σ G fun y G1 => r x y G1 fun z G2 => E.nx (σ.set i (some z)) G2 := rfl
theorem x_augS {rs : DSet} : dAugS ta tb tc r r' rs E σ G = ta σ G fun o G1 => tb σ G1 fun i G2 => r o i G2 fun x G3 => tc σ G3 fun y G4 => r' x y G4 fun z G5 => rs o i z G5 fun G6 => E.nx σ G6 := rfl
theorem x_for : dFor ti g t E σ G = ti σ G fun xs gd G1 => dForGo g t gd E xs σ G1 := rfl
theorem x_lc0 {ws : List Nat} : dLc false ti g c tb ws σ G R = ti σ G fun xs gd G1 => xs.length ≤ sizeLine ∧ dLcGo g c tb gd (wipeD σ ws) xs [] G1 fun ds G2 => R (.lst ds) G2 := rfl
theorem x_lc1 {ws : List Nat} : dLc true ti g c tb ws σ G R = ti σ G fun xs gd G1 => xs.length ≤ sizeLine ∧ dLcGo g c tb gd (wipeD σ ws) xs [] G1 fun ds G2 => ∀ p, G2 p = none → R (.ref p) (gup G2 p (.lst ds)) := rfl
theorem x_yes : dYes σ G Rb = Rb true G := rfl
theorem x_noPart {Ro : Option Int → Gp → Prop} : dNoPart σ G Ro = Ro none G := rfl
theorem x_part {Ro : Option Int → Gp → Prop} : dPart ta σ G Ro = ta σ G fun x G1 => isI x fun i => Ro (some i) G1 := rfl
theorem x_slice {tl th : DO} : dSlice mk ta tl th σ G R = ta σ G fun x G1 => tl σ G1 fun l G2 => th σ G2 fun u G3 => dSl mk x l u G3 R := rfl
abbrev DIk := List D → (Gp → Prop) → Gp → Prop
/-- what is gone through: lists that nobody changes, texts, known lists -/
def itD (x : D) (G1 : Gp) (R : DIk) : Prop := match x with
  | .tup ds => R ds (fun _ => True) G1
  | .nt zs => R (zs.map .str) (fun _ => True) G1
  | .lst ds => R ds (fun _ => True) G1
  | .str z => R (signsD z) (fun _ => True) G1
  | .ref a => match G1 a with | some (.lst ds) => R ds (fun G => G a = some (.lst ds)) G1 | _ => False
  | _ => False
variable {Ri : DIk}
theorem x_iter : dIter ta σ G Ri = ta σ G fun x G1 => itD x G1 Ri := rfl
theorem it_t {ds : List D} : itD (.tup ds) G Ri = Ri ds (fun _ => True) G := rfl
theorem it_n {zs : List Str} : itD (.nt zs) G Ri = Ri (zs.map .str) (fun _ => True) G := rfl
theorem it_l {ds : List D} : itD (.lst ds) G Ri = Ri ds (fun _ => True) G := rfl
theorem it_s {z : Str} : itD (.str z) G Ri = Ri (signsD z) (fun _ => True) G := rfl
/-- a list that is known, by what it holds -/
def atL (o : Option GO) (k : List D → Prop) : Prop := match o with | some (.lst ds) => k ds | _ => False
theorem atL_lst {ds : List D} {k : List D → Prop} : atL (some (.lst ds)) k = k ds := rfl
theorem it_r {a : Addr} : itD (.ref a) G Ri = atL (G a) fun ds => Ri ds (fun G => G a = some (.lst ds)) G := rfl
theorem x_rng1 : dRng1 tr σ G Ri = tr σ G fun ds G1 => match ds with | [.int j] => -(2 ^ 62) ≤ j ∧ j < 2 ^ 62 ∧ Ri (rng 0 j.toNat) (fun _ => True) G1 | _ => False := rfl
theorem x_enum : dEnum tr σ G Ri = tr σ G fun ds G1 => match ds with
  | [.lst xs] => Ri (enumD 0 xs) (fun _ => True) G1
  | [.ref a] => (match G1 a with | some (.lst xs) => Ri (enumD 0 xs) (fun G => G a = some (.lst xs)) G1 | _ => False)
  | _ => False := rfl
theorem x_rev : dRev mk ta σ G R = ta σ G fun x G1 => match x with
  | .tup ds => R (.tup ds.reverse) G1
  | x => match lstOf G1 x with | some ds => newL mk ds.reverse G1 R | none => False := rfl
theorem x_m {T : String} {r : D → List D → Gp → DK → Prop} : dM T r ta tr σ G R = ta σ G fun x G1 => mty G1 x = some T ∧ tr σ G1 fun ds G2 => r x ds G2 R := rfl
theorem x_m0 {T : String} {r : D → List D → Gp → DK → Prop} : dM0 T r ta σ G R = ta σ G fun x G1 => mty G1 x = some T ∧ r x [] G1 R := rfl
theorem x_zip : dZipM tr σ G Ri = tr σ G fun ds G1 => match ds with
  | [x, y] => (match srcD G1 x, srcD G1 y with | some (_, xs, g1), some (_, ys, g2) => Ri (zipD xs ys) (fun G => g1 G ∧ g2 G) G1 | _, _ => False)
  | _ => False := rfl
theorem x_star_t {n j : Nat} {is : List Nat} {ds : List D} : dStar n j is (.tup ds) σ G Rg = (n ≤ ds.length + 1 ∧ Rg (setAll σ is (starD n j ds)) G) := rfl
theorem x_star_l {n j : Nat} {is : List Nat} {ds : List D} : dStar n j is (.lst ds) σ G Rg = (n ≤ ds.length + 1 ∧ Rg (setAll σ is (starD n j ds)) G) := rfl
theorem x_lenSet : dLenSet ta σ G R = ta σ G fun x G1 => match (seqOf G1 x).bind keysD with | some ks => ks.length + 1 < scanBound ∧ R (.int (uniq ks).length) G1 | none => False := rfl
theorem x_while : dWhile c t E σ G = ∃ n, dWhN c t E n σ G := rfl
theorem x_forgo0 {gd : Gp → Prop} : dForGo g t gd E [] σ G = (gd G ∧ E.nx σ G) := rfl
theorem x_lcgo0 {gd : Gp → Prop} {acc : List D} {Q : List D → Gp → Prop} : dLcGo g c ta gd σ [] acc G Q = (gd G ∧ Q acc G) := rfl
/-- things at places -/
theorem ix_t {as : List D} {i : Int} : dIx (.tup as) (.int i) G R = isN (atI as i) fun d => R d G := rfl
theorem ix_l {as : List D} {i : Int} : dIx (.lst as) (.int i) G R = isN (atI as i) fun d => R d G := rfl
theorem ix_r {a : Addr} {i : Int} : dIx (.ref a) (.int i) G R = atL (G a) fun ds => isN (atI ds i) fun d => R d G := by
  cases e : G a with
  | none => simp only [dIx, seqOf, lstOf, atL, e]
  | some o =>
    cases o with
    | lst ds => simp only [dIx, seqOf, lstOf, atL, isN, e] <;> rfl
    | _ => simp only [dIx, seqOf, lstOf, atL, e]
end
theorem at_0 {α : Type} {a : α} {xs : List α} : atI (a :: xs) 0 = some a := atI_nat (xs := a :: xs) (j := 0) (v := a) rfl
theorem at_1 {α : Type} {a b : α} {xs : List α} : atI (a :: b :: xs) 1 = some b := atI_nat (xs := a :: b :: xs) (j := 1) (v := b) rfl
theorem at_2 {α : Type} {a b c : α} {xs : List α} : atI (a :: b :: c :: xs) 2 = some c := atI_nat (xs := a :: b :: c :: xs) (j := 2) (v := c) rfl
theorem at_3 {α : Type} {a b c d : α} {xs : List α} : atI (a :: b :: c :: d :: xs) 3 = some d := atI_nat (xs := a :: b :: c :: d :: xs) (j := 3) (v := d) rfl
theorem at_4 {α : Type} {a b c d e : α} {xs : List α} : atI (a :: b :: c :: d :: e :: xs) 4 = some e := atI_nat (xs := a :: b :: c :: d :: e :: xs) (j := 4) (v := e) rfl
theorem at_5 {α : Type} {a b c d e f : α} {xs : List α} : atI (a :: b :: c :: d :: e :: f :: xs) 5 = some f := atI_nat (xs := a :: b :: c :: d :: e :: f :: xs) (j := 5) (v := f) rfl
end DL

set_option Elab.async false
set_option linter.all false
set_option maxRecDepth 100000
set_option maxHeartbeats 4000000
set_option autoImplicit false
namespace DL
open PySem PySem.Spec PyProof.Rows L2
/-! ### sorted(xs, key=f), f a def -/
section
variable {prog : Program} {w : World} {A : Around} {E : Value → Shared → Prop} {s : Shared} {a kS : Addr} {vs : List Value} {keys : Array Value} {e e1 : Nat} {P : PySem.Fin → Shared → Prop}
/-- the last steps: the keys go, the list gets what is sorted -/
theorem own_tail {z : SortSt} {ws : List Value} (hk : s.heap.get? kS = some (seqObj "list" keys e)) (hl : s.heap.get? a = some (seqObj "list" #[] e1)) (ne : kS ≠ a) (few : keys.size ≤ sizeLine) (few' : ws.length ≤ sizeLine)
    (calm : failedOf z = none) (told : (arrOf z).toList.map Prod.snd = ws)
    (next : ∀ (g g' : Heap) (c : Nat), (∀ b o, b ≠ kS → s.heap.get? b = some o → g.get? b = some o) → (∀ b o, b ≠ a → g.get? b = some o → g'.get? b = some o) → g'.get? a = some (seqObj "list" ws.toArray c) → P (.done (.ret .none)) { s with heap := g' }) :
    wpAny (model prog w) A (ksk_tail a false e1 (.ref kS) z) P E s := by
  have out : (arrOf z).map Prod.snd = ws.toArray := Array.toList_inj.mp (by rw [Array.toList_map, told])
  have u1 := (Heap.SameBut.update s.heap kS (Obj.mapSeq fun _ => (#[] : Array Value))).2
  have l1 := (u1 a ne.symm).trans hl
  have u2 := (Heap.SameBut.update (s.heap.update kS (Obj.mapSeq fun _ => (#[] : Array Value))) a (Obj.mapSeq fun _ => ws.toArray)).2
  show wpAny _ _ (do
    Builtin.List.listUpdate (.ref kS) fun _ => #[]
    letGo ((arrOf z).map Prod.fst).toList (failedOf z).toList
    let n ← seqEpoch a
    Builtin.List.listUpdate (.ref a) fun _ => (arrOf z).map Prod.snd
    if let some x := failedOf z then rule "list.sort.comparison-raised"; throw x
    if (n != e1) = true then rule "list.sort.modified"; raiseError "ValueError" "list modified during sort"
    ret .none) P E s
  rw [out, calm]
  refine wpAny_bind (listUpdate_at hk rfl (wpAny_bind (wpAny_letGo (wpAny_bind (seqEpoch_at l1 rfl (wpAny_bind (listUpdate_at l1 rfl ?_ (Nat.zero_le _) ?_)))))) few (Nat.zero_le _))
  · have same : (e1 != e1) = false := by simp
    simp only [same, Bool.false_eq_true, if_false]
    exact wpAny_pure (next _ _ _ (fun b o hb q => (u1 b hb).trans q) (fun b o hb q => (u2 b hb).trans q) (get?_update_seq l1 fun _ => ws.toArray))
  · rw [List.size_toArray]; omega
/-- keys that can be sorted: the items come out by them -/
theorem own_end {κ : PyProof.Rows.KeyKind} (hk : s.heap.get? kS = some (seqObj "list" keys e)) (hl : s.heap.get? a = some (seqObj "list" #[] e1)) (ne : kS ≠ a) (S : PySem.W.SortsAt prog w A s κ keys.toList) (hn : keys.size = vs.length) (few : vs.length ≤ sizeLine)
    (next : ∀ (g g' : Heap) (c : Nat), (∀ b o, b ≠ kS → s.heap.get? b = some o → g.get? b = some o) → (∀ b o, b ≠ a → g.get? b = some o → g'.get? b = some o) → g'.get? a = some (seqObj "list" (PySem.W.sortVals κ false keys.toList vs).toArray c) → P (.done (.ret .none)) { s with heap := g' }) :
    wpAny (model prog w) A (ksk_end a false vs.toArray e1 (.ref kS) keys) P E s := by
  have kz : PyProof.Rows.KeysOf κ (keys.zip vs.toArray) := PySem.W.keysOf_zip S.keys
  have len : (keys.zip vs.toArray).size = vs.length := by
    have h8 : vs.toArray.size = vs.length := List.size_toArray ..
    rw [Array.size_zip, h8, hn]
    exact Nat.min_self _
  have many : (PySem.W.sortVals κ false keys.toList vs).length ≤ sizeLine := by rw [PySem.W.sortVals_length false (by simpa using hn)]; exact few
  have fin : ∀ z : SortSt, failedOf z = none → (arrOf z).Perm (keys.zip vs.toArray) → SortedToK κ (arrOf z) vs.length → Stable κ (arrOf z) (keys.zip vs.toArray) → wpAny (model prog w) A (ksk_tail a false e1 (.ref kS) z) P E s := by
    intro z h0 h1 h2 h3
    refine own_tail hk hl ne (by omega) many h0 ?_ next
    have o := PySem.W.sort_out (rev := false) (κ := κ) (keys := keys) (items := vs.toArray) (xs := arrOf z) kz h1 (by rw [← len] at h2; exact h2) h3
    simpa using o
  show wpAny _ _ (do
    let kind ← if vs.toArray.size < 2 then pure general' else keyKind' keys
    let r ← (if vs.toArray.size < 2 then pure () else sortRuns').run (SortSt.mk' kind (keys.zip vs.toArray) #[] 7 none)
    ksk_tail a false e1 (.ref kS) r.2) P E s
  obtain ⟨kd, g1, g2⟩ := S.kind
  cases Nat.lt_or_ge vs.length 2 with
  | inl two =>
    have c : vs.toArray.size < 2 := by simpa using two
    simp only [c, if_true, pure_bind, StateT.run_pure]
    refine fin (SortSt.mk' general' (keys.zip vs.toArray) #[] 7 none) rfl (Array.Perm.refl _) (fun i j h1 h2 => ?_) (Stable.refl _)
    obtain rfl : i = j := by omega
    exact KeyOrd.kle_refl _
  | inr two =>
    have c : ¬ vs.toArray.size < 2 := by simpa using two
    simp only [c, if_false]
    refine wpAny_bind (g2 (by simpa [hn] using two) _ (wpAny_bind (wpAny_mono (H.wpS_sortRunsSt (κ := κ) (kd := kd) (a₀ := keys.zip vs.toArray) (st := SortSt.mk' kd (keys.zip vs.toArray) #[] 7 none)
      (Q := fun _ z => failedOf z = none ∧ (arrOf z).Perm (keys.zip vs.toArray) ∧ SortedToK κ (arrOf z) vs.length ∧ Stable κ (arrOf z) (keys.zip vs.toArray)) g1 kz ⟨Array.Perm.refl _, rfl, rfl⟩ rfl (Stable.refl _) (by omega)
      fun z p1 p2 p3 p4 => ⟨p2, p1, by rw [← len]; exact p3, p4⟩) (fun r s' q => ?_) fun _ _ x => x)))
    obtain ⟨⟨⟩, z⟩ := r
    obtain ⟨rfl, q0, q1, q2, q3⟩ := q
    exact fin z q0 q1 q2 q3
end
/-- an object of ours that was not told is told from now on -/
theorem inv_know {X : Cx} {pins : List (Addr × Obj)} {σ : L2.St} {H : Hp} {s : Shared} {a : Addr} {o : HO} (I : Inv X pins σ H s) (hn : H a = none) (hL : a ≠ X.env.locals) (h1 : X.s_0.heap.objs.size ≤ a) (h2 : ∀ x c, X.env.cells.lookup x = some c → c ≠ a) (h3 : ∀ p ∈ X.pn ++ pins, p.1 ≠ a)
    (new : ObjOk X.prog X.w (upd H a o) s.heap a o) : Inv X pins σ (upd H a o) s := by
  have ne : ∀ b u, H b = some u → b ≠ a := fun b u e z => by rw [z, hn] at e; cases e
  have st : ∀ b u, H b = some u → upd H a o b = some u := fun b u e => by rw [upd_ne (ne b u e)]; exact e
  have hok : HOk X.prog X.w (upd H a o) s.heap := fun b u e => by
    by_cases z : b = a
    · subst z; rw [upd_same] at e; cases e; exact new
    · rw [upd_ne z] at e
      exact (I.hok b u e).stay (fun c v _ q => q) (fun c q => st c _ q) fun c _ q => st c _ q
  have hch : ∀ b ∈ [a], (b ∈ X.ex ∨ X.s_0.heap.objs.size ≤ b) ∧ b ≠ X.env.locals ∧ (∀ x c, X.env.cells.lookup x = some c → c ≠ b) ∧ ∀ p ∈ X.pn ++ pins, p.1 ≠ b := fun b hb => by
    have e : b = a := by simpa using hb
    subst e
    exact ⟨.inr h1, hL, h2, h3⟩
  exact I.step (h' := s.heap) (H' := upd H a o) (g' := s.gens) (d' := s.drawn) (t' := s.toks) (ch := [a]) hch
    (fun b o _ _ _ e _ => e) (fun b o _ _ _ e _ => ⟨o.slots, e⟩) (fun b o' hc e n => by rw [upd_ne (fun z => hc (by simp [z]))]; exact n) (fun b o _ e => ⟨o, e⟩)
    (fun b xs e => st b _ e) (fun b _ _ e => st b _ e) (fun b ps e => ⟨#[], by rw [st b _ e]; simp⟩) (fun m hm => hm) hok I.bare
def tKeys (sp : Sp) : List V → List V → Hp → (List V → Hp → Prop) → Prop
  | [], ks, H, Q => Q ks H
  | x :: xs, ks, H, Q => sp [x] H (fun k H1 => tKeys sp xs (ks ++ [k]) H1 Q) E0
def keyOut (xs : List V) (kz : List PyData) : List V := ((xs.zip kz).mergeSort (PySem.W.dataLe false (·.2))).map (·.1)
def rSortK (K : PySem.W.Frag) (f : Addr) (sp : Sp) : List V → List V → Hp → VK → Prop := fun vs zs H Q => ∃ a xs, vs = [.ref a] ∧ zs = [.ref f] ∧ (SqL K H a xs ∨ SqT K H a xs) ∧
  tKeys sp xs [] H fun ks H1 => ∃ kz, DpAll K H1 ks kz ∧ PySem.W.AllAlike kz ∧ PySem.W.Sortable kz ∧ (∀ d ∈ kz, d.depth ≤ 8) ∧ ∀ p, H1 p = none → Q (.ref p) (upd H1 p (.lst (keyOut xs kz)))
theorem each_of_reads {h : Heap} : ∀ {us : List Value} {ds : List PyData} {as : List Addr}, ReadsAll h us ds as → PySem.W.EachIs (fun v d => ∃ as, Reads h v d as) us ds
  | _, _, _, .nil => .nil
  | _, _, _, .cons r t => .cons ⟨_, r⟩ (each_of_reads t)
theorem each_zip {xs : List V} {kz : List PyData} : ∀ {us : List Value}, Vals xs us → xs.length = kz.length → PySem.W.EachIs (fun u (p : V × PyData) => RelV p.1 u) us (xs.zip kz) := by
  induction xs generalizing kz with
  | nil => intro us r _; cases r; exact .nil
  | cons x xs ih =>
    intro us r hl
    cases r with
    | cons r1 r2 =>
      cases kz with
      | nil => simp at hl
      | cons k kz => exact .cons r1 (ih r2 (by simpa using hl))
theorem vals_each : ∀ {us : List Value} {ps : List (V × PyData)}, PySem.W.EachIs (fun u (p : V × PyData) => RelV p.1 u) us ps → Vals (ps.map (·.1)) us
  | _, _, .nil => .nil
  | _, _, .cons h t => .cons h (vals_each t)
section
variable {X : Cx} {f : Addr} {fd : FuncData} {pr : Str} {sp : Sp} {k : Nat}
theorem run_fn2 {pins : List (Addr × Obj)} {σ : L2.St} {H : Hp} {s : Shared} {Q : VK} {us : List Value} {vs : List V} {ps : List Str} (F : FnOk X.prog X.w X.K X.mg X.base CX0 k f fd ps sp) (hr : Room (k + 2) X.A) (hb : Binds X.K fd ps []) (I : Inv X pins σ H s) (r : Vals vs us) (h : sp vs H Q E0) {E : Value → Shared → Prop} :
    wpAny (model X.prog X.w) X.A.in1.in1 (call (.ref f) us) (EP X pins σ Q) E s := by
  have hl : (us ++ []).length = ps.length := by rw [List.append_nil, ← r.length]; exact F.len _ _ _ _ h
  have hb' := hb s us I.kIn hl
  rw [List.append_nil] at hb'
  refine wpAny_call (codeAny_mono (F.run X.A.in1.in1 X.stack s H ⟨us, []⟩ us vs Q E0 (Room.in1 (Room.in1 hr)) I.env0.in1.in1 hb' r h) fun r s' hq => ?_)
  cases r with
  | error e => exact hq.elim
  | ok fl =>
    cases fl with
    | ret u => exact I.after hq
    | next => exact False.elim hq
    | brk => exact False.elim hq
    | cont => exact False.elim hq
/-- sorted of a list or a tuple: a new list is sorted -/
theorem own_sorted {prog : Program} {w : World} {A : Around} {E : Value → Shared → Prop} {s : Shared} {l : Addr} {vs : List Value} {T : String} {o : Obj} {n : Nat} {kw : List (Str × Value)} {Q : Value → Shared → Prop} (hT : T = "list" ∨ T = "tuple") (ho : s.heap.get? l = some o) (hc : o.cls = .type T) (hd : o.data = .seq vs.toArray n) (few : vs.length ≤ sizeLine)
    (h1 : argsOk "sorted" ⟨[.ref l], kw⟩) (h2 : ∀ x, argsOk "list.sort" ⟨[.ref x], kw⟩)
    (go : ∀ (g : Heap) (E' : Value → Shared → Prop), (∀ b o', s.heap.get? b = some o' → g.get? b = some o') → wpAny (model prog w) A.in1.in1 (Builtin.«list.sort» ⟨[.ref g.objs.size], kw⟩) (fun f s' => f = .done (.ret .none) ∧ Q (.ref g.objs.size) s') E' { s with heap := g.push (seqObj "list" vs.toArray 0) }) :
    wpAny (model prog w) A (call (.builtin "sorted") [.ref l] kw) Q E s := by
  refine PyProof.Rows.call_function_entry_kw kind_sorted plain_sorted entry_sorted h1 ?_
  unfold Builtin.«sorted»; refine wpAny_bind (m := checkCount "sorted" 1 1 _) (wpAny_pure ?_)
  refine wpAny_bind (wpAny_collect_seq l hT ho hc hd (fun g hg => ?_) (by rw [List.size_toArray]; exact few))
  refine wpAny_bind (wpAny_newList ?_ few)
  refine wpAny_bind (wpAny_holding (PyProof.Rows.wpAny_call_entry_kw slot_list_sort ⟨_, Heap.get?_push_size _ rfl, rfl⟩ entry_list_sort ?b (h2 _)))
  case b => exact wpAny_mono (go g _ hg) (fun f s' hf => by obtain ⟨rfl, hq⟩ := hf; exact ⟨_, rfl, wpAny_pure ⟨_, rfl, hq⟩⟩) fun _ _ e => e
/-- the sorting itself, on a new list -/
theorem sortK_coreV {pins : List (Addr × Obj)} {σ : L2.St} {H : Hp} {s : Shared} {Q : VK} {xs : List V} {its : List Value} {E' : Value → Shared → Prop} (fv : Value) (htree : ∀ a : Addr, Builtin.«list.sort» ⟨[.ref a], [(Str.ofString "key", fv)]⟩ = ksk_tree a fv false)
    (run : ∀ (pins : List (Addr × Obj)) (σ : L2.St) (H : Hp) (s : Shared) (Q : VK) (x : V) (u : Value), Inv X pins σ H s → RelV x u → sp [x] H Q E0 → wpAny (model X.prog X.w) X.A.in1.in1 (call fv [u]) (EP X pins σ Q) (fun _ _ => False) s)
    (hr : Room (k + 2) X.A) (I : Inv X pins σ H s) (rv : Vals xs its) (hz' : its.length ≤ sizeLine)
    (h : tKeys sp xs [] H fun ks H1 => ∃ kz, DpAll X.K H1 ks kz ∧ PySem.W.AllAlike kz ∧ PySem.W.Sortable kz ∧ (∀ d ∈ kz, d.depth ≤ 8) ∧ ∀ p, H1 p = none → Q (.ref p) (upd H1 p (.lst (keyOut xs kz)))) :
    wpAny (model X.prog X.w) X.A.in1.in1 (Builtin.«list.sort» ⟨[.ref s.heap.objs.size], [(Str.ofString "key", fv)]⟩) (fun r s' => r = .done (.ret .none) ∧ EP X pins σ Q (.ref s.heap.objs.size) s') E' { s with heap := s.heap.push (seqObj "list" its.toArray 0) } := by
  rw [htree]
  have hold : ∀ b o, s.heap.get? b = some o → (s.heap.push (seqObj "list" its.toArray 0)).get? b = some o := fun _ _ q => Heap.get?_push_of_some _ q
  have hna : (s.heap.push (seqObj "list" its.toArray 0)).get? s.heap.objs.size = some (seqObj "list" its.toArray 0) := Heap.get?_push_size _ rfl
  have hca : (s.heap.push (seqObj "list" its.toArray 0)).objs.size = s.heap.objs.size + 1 := size_push' ..
  generalize hA : s.heap.objs.size = a at hna ⊢
  generalize s.heap.push (seqObj "list" its.toArray 0) = hc at hold hna hca ⊢
  have s1 := Heap.SameBut.update hc a (Obj.mapSeq fun _ => (#[] : Array Value))
  obtain ⟨e1, ho1⟩ : ∃ e1, (hc.update a (Obj.mapSeq fun _ => (#[] : Array Value))).get? a = some (seqObj "list" #[] e1) := ⟨_, get?_update_seq hna fun _ => #[]⟩
  unfold ksk_tree
  refine wpAny_bind (listItems_at hna rfl ?_)
  refine wpAny_bind (listUpdate_at hna rfl ?_ (by rw [List.size_toArray]; exact hz') (Nat.zero_le _))
  refine wpAny_bind (seqEpoch_at ho1 rfl ?_)
  refine wpAny_bind (wpAny_newTuple ?_ (by exact hz'))
  refine wpAny_bind (wpAny_newList ?_ (Nat.zero_le _))
  refine wpAny_holding ?_
  have hkS : ((hc.update a (Obj.mapSeq fun _ => (#[] : Array Value))).push (seqObj "tuple" its.toArray 0)).objs.size = s.heap.objs.size + 2 := by rw [size_push', Heap.size_update, hca]
  show wpAny _ _ (ksk_rest a fv false its.toArray e1 (.ref ((hc.update a (Obj.mapSeq fun _ => (#[] : Array Value))).push (seqObj "tuple" its.toArray 0)).objs.size)) _ _ { s with heap := (((hc.update a (Obj.mapSeq fun _ => (#[] : Array Value))).push (seqObj "tuple" its.toArray 0)).push (seqObj "list" #[] 0)) }
  have hkA : (((hc.update a (Obj.mapSeq fun _ => (#[] : Array Value))).push (seqObj "tuple" its.toArray 0)).push (seqObj "list" #[] 0)).get? (s.heap.objs.size + 2) = some (seqObj "list" #[] 0) := by
    rw [← hkS]; exact Heap.get?_push_size _ rfl
  have hAa : (((hc.update a (Obj.mapSeq fun _ => (#[] : Array Value))).push (seqObj "tuple" its.toArray 0)).push (seqObj "list" #[] 0)).get? a = some (seqObj "list" #[] e1) :=
    Heap.get?_push_of_some _ (Heap.get?_push_of_some _ ho1)
  have hO : ∀ b o, s.heap.get? b = some o → (((hc.update a (Obj.mapSeq fun _ => (#[] : Array Value))).push (seqObj "tuple" its.toArray 0)).push (seqObj "list" #[] 0)).get? b = some o := fun b o q =>
    Heap.get?_push_of_some _ (Heap.get?_push_of_some _ ((s1.2 b (Nat.ne_of_lt (by have := Heap.lt_size q; rw [← hA]; exact this))).trans (hold b o q)))
  rw [hkS]
  generalize (((hc.update a (Obj.mapSeq fun _ => (#[] : Array Value))).push (seqObj "tuple" its.toArray 0)).push (seqObj "list" #[] 0)) = h1 at hkA hAa hO ⊢
  generalize hK : s.heap.objs.size + 2 = kS at hkA ⊢
  have hka : kS ≠ a := by omega
  have young : ∀ c, s.heap.objs.size ≤ c → c ≠ X.env.locals ∧ X.s_0.heap.objs.size ≤ c ∧ (∀ x d, X.env.cells.lookup x = some d → d ≠ c) ∧ (∀ p ∈ X.pn ++ pins, p.1 ≠ c) ∧ c ∉ X.fs := fun c hc => by
    refine ⟨Nat.ne_of_gt (Nat.lt_of_lt_of_le I.lt hc), Nat.le_trans I.sz hc, fun x d e z => ?_, fun p hp z => ?_, I.nofs hc⟩
    · obtain ⟨v, o, ho, _⟩ := I.cell x d e
      have := Heap.lt_size ho
      rw [z] at this
      exact absurd this (Nat.not_lt.mpr hc)
    · have := Heap.lt_size (I.pin p hp).1
      rw [z] at this
      exact absurd this (Nat.not_lt.mpr hc)
  have ya := young a (by omega)
  have yk := young kS (by omega)
  have I1 : Inv X pins σ H { s with heap := h1 } := I.kept (t' := s.toks) hO
  have Ha : H a = none := I.hok.fresh (by omega)
  have Hk : H kS = none := I.hok.fresh (by omega)
  unfold ksk_rest
  refine wpAny_bind (wpAny_rule ?_)
  first
    | rw [List.forIn_toArray]
    | (rw [← Array.forIn_toList]; simp only [List.toList_toArray])
    | rw [← Array.forIn_toList]
  refine wpAny_bind (ksk_fold (fun i s' => ∃ H' kA e ks, Inv X ((a, seqObj "list" #[] e1) :: (kS, seqObj "list" kA e) :: pins) σ H' s' ∧ Vals ks kA.toList ∧ ks.length = i ∧ tKeys sp (xs.drop i) ks H' fun ks H1 => ∃ kz, DpAll X.K H1 ks kz ∧ PySem.W.AllAlike kz ∧ PySem.W.Sortable kz ∧ (∀ d ∈ kz, d.depth ≤ 8) ∧ ∀ p, H1 p = none → Q (.ref p) (upd H1 p (.lst (keyOut xs kz)))) its 0 { s with heap := h1 }
    ⟨H, #[], 0, [], ?init, .nil, rfl, by simpa using h⟩ ?step ?done)
  case init =>
    refine I1.pins_of fun p hp => ?_
    rcases List.mem_cons.mp hp with rfl | hp
    · exact ⟨hAa, Ha, ya.1, ya.2.2.2.2, fun v hv => by cases hv⟩
    · rcases List.mem_cons.mp hp with rfl | hp
      · exact ⟨hkA, Hk, yk.1, yk.2.2.2.2, fun v hv => by cases hv⟩
      · exact I1.pin p (List.mem_append_right _ hp)
  case step =>
    rintro j x s' hx ⟨H', kA, e, ks, I', rk, hkl, ht⟩
    simp only [Nat.zero_add] at hkl ht ⊢
    have hjl : j < xs.length := by rw [rv.length]; exact (List.getElem?_eq_some_iff.mp hx).1
    obtain ⟨y, hy⟩ : ∃ y, xs[j]? = some y := ⟨_, List.getElem?_eq_getElem hjl⟩
    obtain ⟨u0, hu0, ry⟩ := rv.get hy
    rw [hx] at hu0
    cases hu0
    have ed : xs.drop j = y :: xs.drop (j + 1) := by
      rw [List.drop_eq_getElem_cons (List.getElem?_eq_some_iff.mp hy).1, (List.getElem?_eq_some_iff.mp hy).2]
    rw [ed] at ht
    refine wpAny_bind (wpAny_attempt (wpAny_mono (run _ _ _ _ _ _ _ I' ry ht) (fun v s'' he => ?_) fun _ _ hF => hF.elim))
    obtain ⟨kv, H2, I2, rkv, ht2⟩ := he
    try dsimp only
    have pa := I2.pin (a, seqObj "list" #[] e1) (List.mem_append_right _ (.head _))
    have pk := I2.pin (kS, seqObj "list" kA e) (List.mem_append_right _ (.tail _ (.head _)))
    have s1 := Heap.SameBut.update s''.heap kS (Obj.mapSeq (·.push v))
    obtain ⟨c2, hc2⟩ : ∃ c2, (s''.heap.update kS (Obj.mapSeq (·.push v))).get? kS = some (seqObj "list" (kA.push v) c2) := ⟨_, get?_update_seq pk.1 (·.push v)⟩
    have hjx : j < its.length := (List.getElem?_eq_some_iff.mp hx).1
    have hks : kA.size = j := by
      have h9 : ks.length = kA.toList.length := rk.length
      rw [Array.length_toList] at h9
      exact h9.symm.trans hkl
    refine wpAny_bind (listUpdate_at pk.1 rfl ?_ (by omega) (Nat.le_trans (Nat.le_of_eq (Array.size_push ..)) (by omega)))
    refine wpAny_pure ⟨rfl, H2, kA.push v, c2, ks ++ [kv], ?_, by rw [Array.toList_push]; exact rk.append (.cons rkv .nil), by simp [hkl], ht2⟩
    have I3 : Inv X pins σ H2 s'' := I2.pins_of fun p hp => I2.pin p (List.mem_append_right _ (.tail _ (.tail _ hp)))
    have I4 : Inv X pins σ H2 { s'' with heap := s''.heap.update kS (Obj.mapSeq (·.push v)) } := I3.turned (t' := s''.toks) (it := kS) (fun b o hb q => (s1.2 b hb).trans q) pk.2.1 yk.1 (.inr yk.2.1) yk.2.2.1 yk.2.2.2.1
    refine I4.pins_of fun p hp => ?_
    rcases List.mem_cons.mp hp with rfl | hp
    · exact ⟨(s1.2 a hka.symm).trans pa.1, pa.2⟩
    · rcases List.mem_cons.mp hp with rfl | hp
      · exact ⟨hc2, pk.2.1, yk.1, yk.2.2.2.2, fun v hv => by cases hv⟩
      · exact I4.pin p (List.mem_append_right _ hp)
  case done =>
    rintro s' ⟨H', kA, e, ks, I', rk, hkl, ht⟩
    have hxl : xs.length = its.length := rv.length
    rw [show xs.drop (0 + its.length) = [] by rw [List.drop_eq_nil_iff]; omega] at ht
    obtain ⟨kz, hd, hal, hsk, hdp, q⟩ := ht
    have pa := I'.pin (a, seqObj "list" #[] e1) (List.mem_append_right _ (.head _))
    have pk := I'.pin (kS, seqObj "list" kA e) (List.mem_append_right _ (.tail _ (.head _)))
    obtain ⟨as, hr2⟩ := Dp.readsAll I' kz ks kA.toList hd rk
    have hE := each_of_reads hr2
    have hks : kA.size = its.length := by
      have h9 : ks.length = kA.toList.length := rk.length
      rw [Array.length_toList] at h9
      exact h9.symm.trans (hkl.trans (Nat.zero_add _))
    have hkz : xs.length = kz.length := by
      have h1 := hE.length
      rw [Array.length_toList] at h1
      omega
    refine wpAny_bind (listItems_at pk.1 rfl ?_)
    refine own_end (κ := PySem.W.dataKind s'.heap kz) pk.1 pa.1 hka (PySem.W.SortsAt.data hE hal hsk fun d hdm => ?_) hks hz' fun h2 h3 c k2 k3 ha3 => ⟨rfl, ?_⟩
    · have := hdp d hdm
      have := hr.un
      show X.A.units + 1 + 1 + d.depth < cLine
      omega
    · have I3 : Inv X pins σ H' s' := I'.pins_of fun p hp => I'.pin p (List.mem_append_right _ (.tail _ (.tail _ hp)))
      have I4 : Inv X pins σ H' { s' with heap := h2 } := I3.turned (t' := s'.toks) (it := kS) k2 pk.2.1 yk.1 (.inr yk.2.1) yk.2.2.1 yk.2.2.2.1
      have I5 : Inv X pins σ H' { s' with heap := h3 } := Inv.turned (s := { s' with heap := h2 }) (h' := h3) I4 (t' := s'.toks) (it := a) k3 pa.2.1 ya.1 (.inr ya.2.1) ya.2.2.1 ya.2.2.2.1
      have hout := PySem.W.keyedOut_each (β := V × PyData) (R := fun u p => RelV p.1 u) (bs := xs.zip kz) (rev := false) (vs := its) (out := PySem.W.sortVals (PySem.W.dataKind s'.heap kz) false kA.toList its) (·.2)
        (by rw [List.map_snd_zip (by omega)]; exact ⟨s'.heap, kA.toList, hal, rfl, hE⟩) (each_zip rv hkz)
      have hv := vals_each hout
      have hlen : (keyOut xs kz).length ≤ sizeLine := by
        unfold keyOut
        rw [List.length_map, List.length_mergeSort, List.length_zip]
        omega
      exact ⟨.ref a, upd H' a (.lst (keyOut xs kz)), inv_know I5 pa.2.1 ya.1 ya.2.1 ya.2.2.1 ya.2.2.2.1 ⟨hlen, _, c, hv, ha3⟩, rfl, q a pa.2.1⟩
theorem sortK_core {pins : List (Addr × Obj)} {σ : L2.St} {H : Hp} {s : Shared} {Q : VK} {xs : List V} {its : List Value} {E' : Value → Shared → Prop} (F : FnOk X.prog X.w X.K X.mg X.base CX0 k f fd [pr] sp) (hr : Room (k + 2) X.A) (hb : Binds X.K fd [pr] []) (I : Inv X pins σ H s) (rv : Vals xs its) (hz' : its.length ≤ sizeLine)
    (h : tKeys sp xs [] H fun ks H1 => ∃ kz, DpAll X.K H1 ks kz ∧ PySem.W.AllAlike kz ∧ PySem.W.Sortable kz ∧ (∀ d ∈ kz, d.depth ≤ 8) ∧ ∀ p, H1 p = none → Q (.ref p) (upd H1 p (.lst (keyOut xs kz)))) :
    wpAny (model X.prog X.w) X.A.in1.in1 (Builtin.«list.sort» ⟨[.ref s.heap.objs.size], [(Str.ofString "key", Value.ref f)]⟩) (fun r s' => r = .done (.ret .none) ∧ EP X pins σ Q (.ref s.heap.objs.size) s') E' { s with heap := s.heap.push (seqObj "list" its.toArray 0) } := by
  exact sortK_coreV (.ref f) (ksk_t1 f) (fun pins σ H s Q x u I' ry ht => run_fn2 (E := fun _ _ => False) F hr hb I' (.cons ry .nil) ht) hr I rv hz' h
theorem cr_sortK (F : FnOk X.prog X.w X.K X.mg X.base CX0 k f fd [pr] sp) (hr : Room (k + 2) X.A) (hb : Binds X.K fd [pr] []) : CallRK X (.builtin "sorted") [Str.ofString "key"] (rSortK X.K f sp) := by
  intro pins s σ H vs zs us ws Q I r rz h
  obtain ⟨l, xs, rfl, rfl, hs, h⟩ := h
  obtain rfl := Vals.ref1 r
  obtain rfl := Vals.ref1 rz
  obtain ⟨its, rv, T, o, n, hT, ho, hc, hd, hz⟩ : ∃ its, Vals xs its ∧ ∃ T o n, (T = "list" ∨ T = "tuple") ∧ s.heap.get? l = some o ∧ o.cls = .type T ∧ o.data = .seq its.toArray n ∧ its.length ≤ sizeLine := by
    rcases hs with hs | hs
    · obtain ⟨its, rv, hl, hz⟩ := I.list hs
      obtain ⟨o, ho, hc, n, hd⟩ := hl.isList
      exact ⟨its, rv, "list", o, n, .inl rfl, ho, hc, hd, by rw [← rv.length]; exact hz⟩
    · obtain ⟨its, rv, ⟨o, ho, hc, n, hd⟩, hz⟩ := I.tuple hs
      exact ⟨its, rv, "tuple", o, n, .inr rfl, ho, hc, hd, by rw [← rv.length]; exact hz⟩
  refine own_sorted hT ho hc hd hz (ksk_s1 _ _) (fun x => ksk_l1 _ _) fun g E' hg => ?_
  exact sortK_core (s := { s with heap := g }) F hr hb (I.kept (t' := s.toks) hg) rv hz h
end
end DL

set_option Elab.async false
set_option linter.all false
set_option maxRecDepth 100000
set_option maxHeartbeats 4000000
set_option autoImplicit false
namespace DL
open PySem PySem.Spec PyProof.Rows L2
/-! ### sorted(xs, key=f), by data: keys that are a number and a text -/
def ltK (a b : Int × Str) : Bool := decide (a.1 < b.1) || (decide (a.1 = b.1) && sLt a.2 b.2)
def leK (a b : Int × Str) : Bool := !ltK b a
def keyP : D → Option (Int × Str)
  | .tup [.int i, .str x] => some (i, x)
  | _ => none
def keysP : List D → Option (List (Int × Str))
  | [] => some []
  | d :: ds => match keyP d, keysP ds with | some k, some ks => some (k :: ks) | _, _ => none
def pyK (k : Int × Str) : PyData := .tuple [.int k.1, .str k.2]
theorem keyP_some {d : D} {k : Int × Str} (h : keyP d = some k) : d = .tup [.int k.1, .str k.2] := by
  unfold keyP at h
  split at h
  · cases h; rfl
  · cases h
theorem keysP_py : ∀ {ds : List D} {ks : List (Int × Str)}, keysP ds = some ks → toPys ds = some (ks.map pyK)
  | [], ks, h => by simp only [keysP] at h; cases h; rfl
  | d :: ds, ks, h => by
    simp only [keysP] at h
    split at h
    · rename_i k ks' e1 e2
      cases h
      rw [keyP_some e1]
      simp only [toPys, toPy, keysP_py e2, Option.map_some, List.map_cons, pyK]
    · cases h
theorem keysP_len : ∀ {ds : List D} {ks : List (Int × Str)}, keysP ds = some ks → ks.length = ds.length
  | [], ks, h => by simp only [keysP] at h; cases h; rfl
  | d :: ds, ks, h => by
    simp only [keysP] at h
    split at h
    · rename_i k ks' e1 e2
      cases h
      simp only [List.length_cons, keysP_len e2]
    · cases h
theorem lex_pyK (a b : Int × Str) : PyProof.Rows.lexLt itemOrd (PySem.W.keyToks (pyK a)) (PySem.W.keyToks (pyK b)) = ltK a b := by
  obtain ⟨i, x⟩ := a
  obtain ⟨j, y⟩ := b
  have e : PyProof.Rows.lexLt itemOrd (PySem.W.keyToks (pyK (i, x))) (PySem.W.keyToks (pyK (j, y))) = (decide ((1:Int) < 1) || (!decide ((1:Int) < 1) && (decide (i < j) || (!decide (j < i) && (decide ((1:Int) < 1) || (!decide ((1:Int) < 1) && (decide (x.cps.toList < y.cps.toList) || (!decide (y.cps.toList < x.cps.toList) && (decide ((0:Int) < 0) || (!decide ((0:Int) < 0) && false)))))))))) := rfl
  rw [e]
  simp only [ltK, sLt]
  by_cases h1 : i < j
  · simp [h1]
  · by_cases h2 : i = j
    · subst h2
      simp
    · have : j < i := by omega
      simp [h1, h2, this]
theorem dataLe_pyK {α : Type} (p q : α × (Int × Str)) : PySem.W.dataLe false (fun z : α × PyData => z.2) (p.1, pyK p.2) (q.1, pyK q.2) = leK p.2 q.2 := by
  show (!(PyProof.Rows.lexLt itemOrd (PySem.W.keyToks (pyK q.2)) (PySem.W.keyToks (pyK p.2)))) = _
  rw [lex_pyK]
  rfl
def sortK {α : Type} (xs : List α) (kz : List (Int × Str)) : List α := ((xs.zip kz).mergeSort fun p q => leK p.2 q.2).map (·.1)
theorem zip_map_r {α β γ : Type} (f : β → γ) : ∀ (xs : List α) (ys : List β), xs.zip (ys.map f) = (xs.zip ys).map fun p => (p.1, f p.2)
  | [], _ => by simp
  | _ :: _, [] => by simp
  | x :: xs, y :: ys => by simp [zip_map_r f xs ys]
theorem keyOut_eq (xs : List V) (kz : List (Int × Str)) : keyOut xs (kz.map pyK) = sortK xs kz := by
  unfold keyOut sortK
  rw [zip_map_r, ← List.map_mergeSort (r := fun p q => leK p.2 q.2) (f := fun p : V × (Int × Str) => (p.1, pyK p.2)) (fun a _ b _ => (dataLe_pyK a b).symm), List.map_map]
  rfl
theorem rds_pairs {K : PySem.W.Frag} {H : Hp} {N : Ns} {α : Type} (f : α → D) (g : α → V) : ∀ L : List α, (∀ p ∈ L, RD K H N (f p) (g p)) → RDs K H N (L.map f) (L.map g)
  | [], _ => RDs.nil
  | p :: L, h => RDs.cons (h p (List.mem_cons_self ..)) (rds_pairs f g L fun q hq => h q (List.mem_cons_of_mem _ hq))
theorem rds_zip {K : PySem.W.Frag} {H : Hp} {N : Ns} : ∀ {ds : List D} {vs : List V}, RDs K H N ds vs → ∀ p ∈ ds.zip vs, RD K H N p.1 p.2
  | [], _, _, p, hp => by cases hp
  | d :: ds, _, r, p, hp => by
    obtain ⟨v, vs, rfl, r1, r2⟩ := r.of_cons
    rcases List.mem_cons.mp hp with rfl | hp
    · exact r1
    · exact rds_zip r2 p hp
theorem sortK_proj {α β : Type} (f : α → β) (L : List α) (kz : List (Int × Str)) : (sortK L kz).map f = sortK (L.map f) kz := by
  unfold sortK
  rw [List.map_map]
  have : (L.map f).zip kz = (L.zip kz).map fun p => (f p.1, p.2) := by
    rw [List.zip_map_left]; rfl
  rw [this, ← List.map_mergeSort (r := fun p q : α × (Int × Str) => leK p.2 q.2) (f := fun p : α × (Int × Str) => (f p.1, p.2)) (fun a _ b _ => rfl), List.map_map]
  rfl
theorem sortK_perm {α : Type} {xs : List α} {kz : List (Int × Str)} (h : xs.length ≤ kz.length) : (sortK xs kz).Perm xs := by
  unfold sortK
  refine ((List.mergeSort_perm _ _).map _).trans ?_
  rw [List.map_fst_zip h]
theorem rds_sortK {K : PySem.W.Frag} {H : Hp} {N : Ns} {ds : List D} {vs : List V} {kz : List (Int × Str)} (r : RDs K H N ds vs) (hl : ds.length ≤ kz.length) : RDs K H N (sortK ds kz) (sortK vs kz) := by
  have h1 : (ds.zip vs).map (·.1) = ds := List.map_fst_zip (Nat.le_of_eq r.length)
  have h2 : (ds.zip vs).map (·.2) = vs := List.map_snd_zip (Nat.le_of_eq r.length.symm)
  have e1 := sortK_proj (·.1) (ds.zip vs) kz
  have e2 := sortK_proj (·.2) (ds.zip vs) kz
  rw [h1] at e1
  rw [h2] at e2
  rw [← e1, ← e2]
  refine rds_pairs _ _ _ fun p hp => rds_zip r p ?_
  refine (sortK_perm ?_).mem_iff.mp hp
  rw [List.length_zip]
  omega
def dKeys (sp : DSp) : List D → List D → Gp → (List D → Gp → Prop) → Prop
  | [], ks, G, Q => Q ks G
  | x :: xs, ks, G, Q => sp [x] G (fun k G1 => dKeys sp xs (ks ++ [k]) G1 Q)
theorem keys_up {K : PySem.W.Frag} {sp : DSp} {Q : List D → Gp → Prop} {Q' : List V → Hp → Prop} {H0 : Hp} {N0 : Ns} {G0 : Gp} (q : ∀ kd kv G' N' H', Q kd G' → Stp K H0 N0 G0 H' N' G' → RDs K H' N' kd kv → Q' kv H') :
    ∀ (ds : List D) (vs : List V) (kd : List D) (kv : List V) (H : Hp) (N : Ns) (G : Gp), Stp K H0 N0 G0 H N G → RDs K H N ds vs → RDs K H N kd kv → dKeys sp ds kd G Q → tKeys (upSp K sp) vs kv H Q'
  | [], vs, kd, kv, H, N, G, st, r, rk, h => by
    rw [r.of_nil]
    exact q kd kv G N H h st rk
  | d :: ds, vs, kd, kv, H, N, G, st, r, rk, h => by
    obtain ⟨v, vs, rfl, r1, r2⟩ := r.of_cons
    refine ⟨[d], G, N, _, RDs.cons r1 RDs.nil, st.rel, h, fun k G1 N1 u H1 h1 s1 r3 => ?_⟩
    exact keys_up q ds vs (kd ++ [k]) (kv ++ [u]) H1 N1 G1 (st.trans s1) (r2.le s1.kp) ((rk.le s1.kp).append (RDs.cons r3 RDs.nil)) h1
theorem seqOf_of_lst {G : Gp} {x : D} {ds : List D} (h : lstOf G x = some ds) : seqOf G x = some ds := by
  cases x <;> first | exact h | (simp [lstOf] at h)
def dSortK1 (mk : Bool) (sp : DSp) (x : D) (G1 : Gp) (R : DK) : Prop := match seqOf G1 x with
  | some ds => dKeys sp ds [] G1 fun ks G2 => (match keysP ks with | some kz => ks.length = ds.length ∧ newL mk (sortK ds kz) G2 R | none => False)
  | none => False
def dSortK (mk : Bool) (sp : DSp) (te : DE) : DE := fun σ G R => te σ G fun x G1 => dSortK1 mk sp x G1 R
theorem qe_sortK (mk : Bool) {X : Cx} {f : Addr} {fd : FuncData} {pr fx : Str} {sp : DSp} {k : Nat} {e : Expr} {te : DE} {p p2 p3 pos : Pos} (F : FnD X.prog X.w X.K X.mg X.base k f fd [pr] sp) (hr : Room (k + 2) X.A) (hb : Binds X.K fd [pr] [])
    (hg : Gl X "sorted") (hm : X.mg "sorted" = none) (hgf : Gl X fx) (hmf : X.mg fx = some (.ref f)) (he : QE X e te) (hs : starEach [e] X.env = (false, eval e X.env) :: starEach [] X.env := by rfl)
    (he1 : backTo pos (starEach [e] X.env) = (false, eval e X.env) :: backTo pos (starEach [] X.env) := by rfl) (hpl : (backTo pos (starEach [e] X.env)).any (·.1) = false := by rfl) (hdf : (fx == ("__debug__" : Str)) = false := by decide) :
    QE X (.Call (.Name "sorted" p) [e] [⟨some "key", .Name fx p2, p3⟩] pos) (dSortK mk sp te) := by
  refine pe_mono (pe_callBK (cr_sortK F hr hb) hg hm (by decide +kernel) (qa_cons he qa_nil hs) (pk_cons (pe_glob (v := .ref f) hgf hmf rfl hdf) pk_nil) (he := he1) (hpl := hpl)) fun τ H Q h => ?_
  obtain ⟨σ, G, N, R, hs, hgg, ht, q⟩ := h
  refine ⟨σ, G, N, fun ds G1 => (match ds with | [x] => dSortK1 mk sp x G1 R | _ => False), hs, hgg, ht, fun ds G1 N1 vs H1 h1 s1 r1 => ?_⟩
  dsimp only at h1 ⊢
  split at h1
  · rename_i x
    obtain ⟨v, vs, rfl, r2, r3⟩ := r1.of_cons
    rw [r3.of_nil]
    unfold dSortK1 at h1
    split at h1
    · rename_i ds e
      obtain ⟨a, us, rfl, sq, rd⟩ := seqOf_ok s1.rel r2 e
      refine ⟨a, us, rfl, rfl, sq, ?_⟩
      refine keys_up (H0 := H1) (N0 := N1) (G0 := G1) (fun kd kv G2 N2 H2 h2 s2 rk => ?_) ds us [] [] H1 N1 G1 (Stp.refl s1.rel) rd RDs.nil h1
      split at h2
      · rename_i kz ek
        obtain ⟨hl, h2⟩ := h2
        have hkl := keysP_len ek
        refine ⟨kz.map pyK, toPys_ok rk (keysP_py ek), fun d hd d' hd' => ?_, .inl fun d hd => ?_, fun d hd => ?_, fun p np => ?_⟩
        · obtain ⟨k1, _, rfl⟩ := List.mem_map.mp hd
          obtain ⟨k2, _, rfl⟩ := List.mem_map.mp hd'
          rfl
        · obtain ⟨k1, _, rfl⟩ := List.mem_map.mp hd
          exact ⟨_, _, rfl⟩
        · obtain ⟨k1, _, rfl⟩ := List.mem_map.mp hd
          simp only [pyK, PyData.depth, PyData.depthAll]
          omega
        · rw [keyOut_eq]
          exact newL_ok s2.rel (rds_sortK (rd.le s2.kp) (by omega)) h2 (q.le (s1.trans s2)) np
      · exact h2.elim
    · exact h1.elim
  · exact h1.elim
end DL

set_option Elab.async false
set_option linter.all false
set_option maxRecDepth 100000
set_option maxHeartbeats 4000000
set_option autoImplicit false
namespace DL
open PySem PySem.Spec PyProof.Rows L2
/-! ### methods, of tuples of texts too -/
theorem room100 {k : Nat} {A : Around} (r : Room k A) : A.units + 100 < cLine := by have := r.un; omega
section
variable {X : Cx}
def mtyX (G : Gp) : D → Option String
  | .nt _ => some "tuple"
  | d => mty G d
variable {o e : Expr} {es : List Expr} {to : DE} {t : DA} {name : Str} {apos cpos : Pos} {T id : String} {r : D → List D → Gp → DK → Prop}
def dMX (T : String) (r : D → List D → Gp → DK → Prop) (to : DE) (t : DA) : DE := fun σ G R => to σ G fun x G1 => mtyX G1 x = some T ∧ t σ G1 fun xs G2 => r x xs G2 R
end
section
variable {X : Cx}
theorem pure_list {ds : List D} (h : pyDs ds = true) : ∃ as, toPys ds = some as ∧ PyData.plainAll as = true := by
  obtain ⟨as, h1, h2, _⟩ := toPys_pure h
  exact ⟨as, h1, PyData.plainAll_of_canLay0 as h2⟩
theorem pure_one {d : D} (h : pyD d = true) : ∃ a, toPy d = some a ∧ a.plain = true ∧ a.depth = depD d := by
  obtain ⟨a, h1, h2, h3⟩ := toPy_pure h
  exact ⟨a, h1, PyData.plain_of_canLay0 a h2, h3⟩
theorem toPys_map {ds : List D} {as : List PyData} (h : toPys ds = some as) : ∀ {x : D} {a : PyData} (f : Bool → Nat), toPy x = some a → as.map (fun z => PyData.eqv z a) = ds.map fun z => eqD z x := by
  induction ds generalizing as with
  | nil => intro x a f hx; simp only [toPys] at h; cases h; rfl
  | cons d ds ih =>
    intro x a f hx
    simp only [toPys] at h
    split at h
    · rename_i b bs e1 e2
      cases h
      simp only [List.map_cons, ih e2 f hx, eqv_eqD e1 hx]
    · cases h
theorem any_map' {α : Type} (p : α → Bool) (l : List α) : l.any p = (l.map p).any id := by rw [List.any_map]; rfl
theorem findIdx?_map' {α : Type} (p : α → Bool) (l : List α) : l.findIdx? p = (l.map p).findIdx? id := by rw [List.findIdx?_map]; rfl
/-! ### in, of data -/
def dInE (f : Bool → Bool) : DR2 := fun x y G R => match x, y with
  | .str a, .str b => dInW f (.str a) (.str b) G R
  | x, y => match seqOf G y with | some ds => pyD x = true ∧ pyDs ds = true ∧ depD x ≤ 60 ∧ R (.bl (f (ds.any fun z => eqD z x))) G | none => False
theorem in_dataV {op : CmpOp} {f : Bool → Bool} (hu : X.A.units + 100 < cLine)
    (hL : ∀ {s : Shared} {c x : Value} {xs : List PyData} {d : PyData} {as bs : List Addr} {Q : Value → Shared → Prop}, Reads s.heap c (.list xs) as → Reads s.heap x d bs → PyData.plainAll xs = true → d.plain = true → X.A.units + 1 + min (PyData.depthAll xs) d.depth < cLine → Q (.bool (f (xs.any fun y => PyData.eqv y d))) s → wpAny (model X.prog X.w) X.A (compareOp op x c) Q X.xe s)
    (hT : ∀ {s : Shared} {c x : Value} {xs : List PyData} {d : PyData} {as bs : List Addr} {Q : Value → Shared → Prop}, Reads s.heap c (.tuple xs) as → Reads s.heap x d bs → PyData.plainAll xs = true → d.plain = true → X.A.units + 1 + min (PyData.depthAll xs) d.depth < cLine → Q (.bool (f (xs.any fun y => PyData.eqv y d))) s → wpAny (model X.prog X.w) X.A (compareOp op x c) Q X.xe s) :
    OpR X (compareOp op) (upR2 X.K fun x y G R => match seqOf G y with | some ds => pyD x = true ∧ pyDs ds = true ∧ depD x ≤ 60 ∧ R (.bl (f (ds.any fun z => eqD z x))) G | none => False) := by
  intro pins s σ H x y v u Q I rx ry h
  obtain ⟨c, d, G, N, R, r1, r2, rg, h, q⟩ := h
  split at h
  · rename_i ds e
    obtain ⟨h1, h2, h3, h4⟩ := h
    obtain ⟨a, ea, pa, da⟩ := pure_one h1
    obtain ⟨as, es, ps⟩ := pure_list h2
    obtain ⟨_, rx'⟩ := Dp.reads I a x v (toPy_ok r1 ea) rx
    obtain ⟨p, vs, rfl, sq, rds⟩ := seqOf_ok rg r2 e
    have hroom : X.A.units + 1 + min (PyData.depthAll as) a.depth < cLine := by have := Nat.min_le_right (PyData.depthAll as) a.depth; omega
    have hres : (as.any fun y => PyData.eqv y a) = ds.any fun z => eqD z c := by rw [any_map', toPys_map es (fun _ => 0) ea, ← any_map']
    have fin : EP X pins σ Q (.bool (f (as.any fun y => PyData.eqv y a))) s := ⟨.bl _, H, I, rfl, by rw [hres]; exact q.at rg h4 (RD.bl _)⟩
    rcases sq with sq | sq
    · obtain ⟨_, ry'⟩ := Dp.reads I (.list as) (.ref p) u (.lst sq (toPys_ok rds es)) ry
      exact hL ry' rx' ps pa hroom fin
    · obtain ⟨_, ry'⟩ := Dp.reads I (.tuple as) (.ref p) u (.tup sq (toPys_ok rds es)) ry
      exact hT ry' rx' ps pa hroom fin
  · exact h.elim
theorem inE_of {f : Value → Value → Sem Value} {g : Bool → Bool} (h1 : OpD X f (dInW g)) (h2 : OpR X f (upR2 X.K fun x y G R => match seqOf G y with | some ds => pyD x = true ∧ pyDs ds = true ∧ depD x ≤ 60 ∧ R (.bl (g (ds.any fun z => eqD z x))) G | none => False)) : OpD X f (dInE g) :=
  opr_mono (OpR.or h1 h2) fun x y H Q h => by
    obtain ⟨c, d, G, N, R, r1, r2, rg, h, q⟩ := h
    unfold dInE at h
    split at h
    · exact .inl ⟨_, _, G, N, R, r1, r2, rg, h, q⟩
    · exact .inr ⟨c, d, G, N, R, r1, r2, rg, h, q⟩
theorem od_notInE (hu : X.A.units + 100 < cLine) : OpD X (compareOp .NotIn) (dInE not) := inE_of od_notIn (in_dataV hu (fun a b c d e h => SeqAt.notIn_list_data a b c d e h) fun a b c d e h => SeqAt.notIn_tuple_data a b c d e h)
/-! ### the order of data -/
def dCmpE (pi : Int → Int → Bool) (ps : Str → Str → Bool) (pk : Bool → Bool → Bool) : DR2 := fun x y G R => match x, y with
  | .int i, .int j => R (.bl (pi i j)) G
  | .str a, .str b => R (.bl (ps a b)) G
  | x, y => match toPy x, toPy y with | some a, some b => PySem.W.alike a b = true ∧ a ≠ .none ∧ a.depth ≤ 60 ∧ R (.bl (pk (PySem.W.dataLt a b) (PySem.W.dataLt b a))) G | _, _ => False
theorem cmpE_of {f : Value → Value → Sem Value} {pi : Int → Int → Bool} {ps : Str → Str → Bool} {pk : Bool → Bool → Bool} (hu : X.A.units + 100 < cLine) (h1 : OpD X f (dOrd pi ps))
    (h2 : ∀ {s : Shared} {a b : Value} {da db : PyData} {as bs : List Addr} {Q : Value → Shared → Prop}, Reads s.heap a da as → Reads s.heap b db bs → PySem.W.alike da db = true → da ≠ .none → X.A.units + min da.depth db.depth < cLine → Q (.bool (pk (PySem.W.dataLt da db) (PySem.W.dataLt db da))) s → wpAny (model X.prog X.w) X.A (f a b) Q X.xe s) : OpD X f (dCmpE pi ps pk) := by
  have h3 : OpR X f (upR2 X.K fun x y G R => match toPy x, toPy y with | some a, some b => PySem.W.alike a b = true ∧ a ≠ .none ∧ a.depth ≤ 60 ∧ R (.bl (pk (PySem.W.dataLt a b) (PySem.W.dataLt b a))) G | _, _ => False) := by
    intro pins s σ H x y v u Q I rx ry h
    obtain ⟨c, d, G, N, R, r1, r2, rg, h, q⟩ := h
    split at h
    · rename_i a b ea eb
      obtain ⟨h4, h5, h6, h7⟩ := h
      obtain ⟨_, rx'⟩ := Dp.reads I a x v (toPy_ok r1 ea) rx
      obtain ⟨_, ry'⟩ := Dp.reads I b y u (toPy_ok r2 eb) ry
      exact h2 rx' ry' h4 h5 (by have := Nat.min_le_left a.depth b.depth; omega) ⟨.bl _, H, I, rfl, q.at rg h7 (RD.bl _)⟩
    · exact h.elim
  exact opr_mono (OpR.or h1 h3) fun x y H Q h => by
    obtain ⟨c, d, G, N, R, r1, r2, rg, h, q⟩ := h
    unfold dCmpE at h
    split at h
    · exact .inl ⟨_, _, G, N, R, r1, r2, rg, h, q⟩
    · exact .inl ⟨_, _, G, N, R, r1, r2, rg, h, q⟩
    · exact .inr ⟨c, d, G, N, R, r1, r2, rg, h, q⟩
def dLtE : DR2 := dCmpE (fun i j => decide (i < j)) (fun a b => sLt a b) fun l _ => l
theorem od_ltE (hu : X.A.units + 100 < cLine) : OpD X (compareOp .Lt) dLtE := cmpE_of hu od_lt fun a b c d e h => PySem.W.lt_data a b c d e h
theorem ltE_key {i j : Int} {x y : Str} {G : Gp} {R : DK} : dLtE (.tup [.int i, .str x]) (.tup [.int j, .str y]) G R = R (.bl (ltK (i, x) (j, y))) G := by
  have e := lex_pyK (i, x) (j, y)
  show (PySem.W.alike _ _ = true ∧ _ ∧ _ ∧ R (.bl (PySem.W.dataLt (pyK (i, x)) (pyK (j, y)))) G) = _
  rw [show PySem.W.dataLt (pyK (i, x)) (pyK (j, y)) = ltK (i, x) (j, y) from e]
  refine propext ⟨fun h => h.2.2.2, fun h => ⟨rfl, by simp, ?_, h⟩⟩
  simp only [pyK, PyData.depth, PyData.depthAll]
  omega
theorem ltE_ii {i j : Int} {G : Gp} {R : DK} : dLtE (.int i) (.int j) G R = R (.bl (decide (i < j))) G := rfl
theorem ltE_ss {i j : Str} {G : Gp} {R : DK} : dLtE (.str i) (.str j) G R = R (.bl (sLt i j)) G := rfl
/-! ### count, index, remove .. -/
def dIndexL : D → List D → Gp → DK → Prop := fun x xs G R => match xs with
  | [y] => (match lstOf G x with | some ds => pyD y = true ∧ pyDs ds = true ∧ depD y ≤ 60 ∧ (ds.any fun z => eqD z y) = true ∧ R (.int (ds.findIdx fun z => eqD z y : Nat)) G | none => False)
  | _ => False
theorem findIdx_of {α : Type} (p : α → Bool) (l : List α) : (l.map p).findIdx id = l.findIdx p := by rw [List.findIdx_map]; rfl
theorem md_indexL (hu : X.A.units + 100 < cLine) : MtD X "list.index" dIndexL := by
  intro pins s σ H x xs v us Q I rx rxs h
  obtain ⟨c, cs, G, N, R, r1, r2, rg, h, q⟩ := h
  unfold dIndexL at h
  split at h
  · rename_i y
    split at h
    · rename_i ds e
      obtain ⟨h1, h2, h3, h5, h4⟩ := h
      obtain ⟨vy, r, rfl, r3, r4⟩ := r2.of_cons
      obtain rfl := r4.of_nil
      obtain ⟨uy, rfl, ruy⟩ := vals1 rxs
      obtain ⟨p, vs, rfl, sq, rds⟩ := lstOf_ok rg r1 e
      cases rx
      obtain ⟨a, ea, pa, da⟩ := pure_one h1
      obtain ⟨as, es, ps⟩ := pure_list h2
      obtain ⟨_, ry⟩ := Dp.reads I a vy uy (toPy_ok r3 ea) ruy
      obtain ⟨its, rv, ⟨⟨cls, dd, data, sls⟩, n, ho, hc, hdn, hdt⟩, hz⟩ := I.list sq
      simp only at hc hdt
      subst hc hdt
      obtain ⟨az, rl⟩ := Dp.readsAll I as vs its (toPys_ok rds es) rv
      have rl' : ReadsAll s.heap its.toArray.toList as az := by simpa using rl
      have hroom : X.A.units + 1 + min (PyData.depthAll as) a.depth < cLine := by have := Nat.min_le_right (PyData.depthAll as) a.depth; omega
      have hmm := toPys_map es (fun _ => 0) ea
      have hf : as.findIdx (fun z => PyData.eqv z a) = ds.findIdx fun z => eqD z y := by rw [← findIdx_of, hmm, findIdx_of]
      have hany : (as.any fun z => PyData.eqv z a) = true := by rw [any_map', hmm, ← any_map']; exact h5
      have hp : SeqAt.dataPlace as a = some (ds.findIdx fun z => eqD z y) := by
        unfold SeqAt.dataPlace
        rw [← hf, List.findIdx?_eq_some_iff_findIdx_eq]
        refine ⟨List.findIdx_lt_length_of_exists ?_, rfl⟩
        simpa using hany
      obtain ⟨hj, hit, hno⟩ := SeqAt.hit_at rl' ps hp
      have hsl := sizeLine_eq
      refine call_meets PySem.F.slot_list_index ⟨_, ho, rfl⟩ PySem.F.entry_list_index (PySem.F.args_list_index_2 _ _) (SeqAt.list_indexAt p its.toArray n dd sls uy (fun u => PyData.eqv (SeqAt.readOf s.heap u) a) _ hj ?_ hit hno) ⟨ho, SeqAt.items_plain rl' ry ps pa hroom, ⟨.int _, H, I.tok _, ⟨_, rfl⟩, q.at rg h4 (RD.int _)⟩⟩
      have : its.toArray.size ≤ sizeLine := by rw [List.size_toArray, ← rv.length]; exact hz
      omega
    · exact h.elim
  · exact h.elim
end
end DL

set_option Elab.async false
set_option linter.all false
set_option maxRecDepth 100000
set_option maxHeartbeats 4000000
set_option autoImplicit false
namespace DL
open PySem PySem.Spec PyProof.Rows L2
section
variable {X : Cx}
/-! ### what changes lists -/
theorem UpQ.wr {K : PySem.W.Frag} {H : Hp} {N : Ns} {G : Gp} {R : DK} {Q : VK} (q : UpQ K H N G R Q) (rg : RelG K H N G) {a : Addr} {ds es : List D} {vs us : List V} {d : D} {v : V} (e : G a = some (.lst ds)) (hv : H a = some (.lst vs)) (rd : RDs K H N es us) (rv : RD K H N d v) (h : R d (gup G a (.lst es))) : Q v (upd H a (.lst us)) := by
  have kw := Kp.write (u := .lst us) (rg a _ e).1 hv rfl rfl
  exact q _ _ N _ _ h (Stp.write (u := .lst us) rg e hv rfl rfl ⟨_, upd_same, rd.le kw⟩) (rv.le kw)
def dPopAt : D → List D → Gp → DK → Prop := fun x xs G R => match x, xs with
  | .ref a, [.int i] => atL (G a) fun ds => 0 ≤ i ∧ i < 2 ^ 62 ∧ isN ds[i.toNat]? fun d => R d (gup G a (.lst (ds.eraseIdx i.toNat)))
  | _, _ => False
theorem md_popAt : MtD X "list.pop" dPopAt := md_of (rv := rPopAt) (fun pins s σ H x xs v us Q I rx rxs q => mt_popAt pins s σ H x xs v us Q I rx rxs q) fun c cs G N R x xs H Q r0 r1 rg h q => by
  unfold dPopAt at h
  split at h
  · rename_i a i
    obtain rfl := r0.of_ref
    obtain ⟨v, r, rfl, rv, rr⟩ := r1.of_cons
    rw [rr.of_nil, rv.of_int]
    unfold atL at h
    split at h
    · rename_i ds e
      obtain ⟨h1, h2, h⟩ := h
      unfold isN at h
      split at h
      · rename_i d ed
        obtain ⟨_, vs, hv, rd⟩ := rg a _ e
        obtain ⟨v, hvg, rv⟩ := rd.get ed
        have hl := (List.getElem?_eq_some_iff.mp hvg).1
        refine ⟨a, vs, i, i.toNat, v, rfl, rfl, hv, by omega, by omega, ?_, hvg, q.wr rg e hv (rd.eraseIdx _) rv h⟩
        unfold seqIndex?
        first
          | (simp; omega)
          | (split <;> simp_all <;> omega)
      · exact h.elim
    · exact h.elim
  · exact h.elim
def dInsert : D → List D → Gp → DK → Prop := fun x xs G R => match x, xs with
  | .ref a, [.int i, y] => atL (G a) fun ds => ds.length < sizeLine ∧ 0 ≤ i ∧ i < 2 ^ 63 ∧ R .non (gup G a (.lst (ds.take i.toNat ++ [y] ++ ds.drop i.toNat)))
  | _, _ => False
theorem md_insert : MtD X "list.insert" dInsert := md_of mt_insert fun c cs G N R x xs H Q r0 r1 rg h q => by
  unfold dInsert at h
  split at h
  · rename_i a i y
    obtain rfl := r0.of_ref
    obtain ⟨v, r, rfl, rv, rr⟩ := r1.of_cons
    obtain ⟨v2, r2, rfl, rv2, rr2⟩ := rr.of_cons
    rw [rr2.of_nil, rv.of_int]
    unfold atL at h
    split at h
    · rename_i ds e
      obtain ⟨h0, h1, h2, h⟩ := h
      obtain ⟨_, vs, hv, rd⟩ := rg a _ e
      exact ⟨a, vs, i, v2, rfl, rfl, hv, by rw [← rd.length]; exact h0, h1, h2, q.wr rg e hv (((rd.take _).append (RDs.cons rv2 RDs.nil)).append (rd.drop _)) RD.non h⟩
    · exact h.elim
  · exact h.elim
/-! ### a new tuple of texts -/
def dTupleN : DRn := fun cs G R => match cs with | [x] => (match (lstOf G x).bind strsOf with | some zs => R (.nt zs) G | none => False) | _ => False
theorem cd_tupleN : CallD X (.type "tuple") dTupleN := by
  intro pins s σ H xs us Q I r h
  obtain ⟨cs, G, N, R, r1, rg, h, q⟩ := h
  unfold dTupleN at h
  split at h
  · rename_i x
    split at h
    · rename_i zs e
      obtain ⟨v, r', rfl, rx, rn⟩ := r1.of_cons
      obtain rfl := rn.of_nil
      obtain ⟨u, rfl, ru⟩ := vals1 r
      cases ex : lstOf G x with
      | none => rw [ex] at e; cases e
      | some ds =>
        rw [ex] at e
        obtain ⟨p, vs, rfl, sq, rds⟩ := lstOf_ok rg rx ex
        cases ru
        have hds := strsOf_ok e
        subst hds
        obtain rfl := rds.of_strs
        obtain ⟨its, rv, pl, hz⟩ := I.list sq
        have hlen := rv.length
        refine call_tuple_list pl.isList (fun h' kp => ?_) (by simp only [List.size_toArray] <;> omega)
        have I1 : L2.Inv X pins σ H { s with heap := h' } := I.kept (t' := s.toks) kp
        have hn : H h'.objs.size = none := I1.hok.fresh (Nat.le_refl _)
        have I2 : L2.Inv X pins σ (upd H h'.objs.size (.frz { cls := .type "tuple", data := .seq its.toArray } (.tup (zs.map V.str)))) { s with heap := h'.push { cls := .type "tuple", data := .seq its.toArray } } :=
          I1.laid (t' := s.toks) (fun b o e => Heap.get?_push_of_some _ e) (Nat.le_refl _) ⟨Heap.get?_push_size _ rfl, show ObjOk X.prog X.w _ _ _ (.tup _) from ⟨hz, its, rv, IsTup.new _ _⟩⟩
        refine ⟨.ref h'.objs.size, _, I2, rfl, q _ _ _ _ _ h (Stp.new0 rg hn) ?_⟩
        simp only [RD]
        exact ⟨_, rfl, .inl ⟨_, upd_same, rfl, rfl⟩⟩
    · exact h.elim
  · exact h.elim
/-! ### a def in a local name, one of several -/
variable {x : Str} {i k : Nat} {e : Expr} {es : List Expr} {t : DA} {p pos : Pos}
end
end DL

set_option Elab.async false
set_option linter.all false
set_option maxRecDepth 100000
set_option maxHeartbeats 4000000
set_option autoImplicit false
namespace DL
open PySem PySem.Spec PyProof.Rows L2
section
variable {σ : Sd} {G : Gp} {R : DK} {ta : DE} {tr : DA}
theorem x_mX {T : String} {r : D → List D → Gp → DK → Prop} : dMX T r ta tr σ G R = ta σ G fun x G1 => mtyX G1 x = some T ∧ tr σ G1 fun ds G2 => r x ds G2 R := rfl
theorem ix_n {zs : List Str} {i : Int} : dIx (.nt zs) (.int i) G R = isN (atI (zs.map .str) i) fun d => R d G := rfl
theorem x_sortK {mk : Bool} {sp : DSp} : dSortK mk sp ta σ G R = ta σ G fun x G1 => dSortK1 mk sp x G1 R := rfl
theorem len_nt {zs : List Str} : dLen [.nt zs] G R = R (.int zs.length) G := by
  show R (.int (zs.map D.str).length) G = _
  rw [List.length_map]
theorem app_r {a : Addr} {y : D} : dAppend (.ref a) [y] G R = atL (G a) fun ds => ds.length < sizeLine ∧ R .non (gup G a (.lst (ds ++ [y]))) := rfl
theorem int_b {b : Bool} : dInt [.bl b] G R = R (.int (if b then 1 else 0)) G := rfl
theorem int_i {i : Int} : dInt [.int i] G R = R (.int i) G := rfl
theorem strI_i {i : Int} : dStrI [.int i] G R = (i.natAbs.log2 < 1920 ∧ R (.str (toString i)) G) := rfl
def dStrX : DRn := fun cs G R => match cs with | [.str z] => R (.str z) G | cs => dStrI cs G R
theorem strX_i {i : Int} : dStrX [.int i] G R = (i.natAbs.log2 < 1920 ∧ R (.str (toString i)) G) := rfl
theorem strX_s {z : Str} : dStrX [.str z] G R = R (.str z) G := rfl
theorem callr_or {X : Cx} {f : Value} {r1 r2 : List V → Hp → VK → Prop} (h1 : CallR X f r1) (h2 : CallR X f r2) : CallR X f fun xs H Q => r1 xs H Q ∨ r2 xs H Q := fun pins s σ H xs us Q I r h => h.elim (h1 pins s σ H xs us Q I r) (h2 pins s σ H xs us Q I r)
theorem cd_strX {X : Cx} : CallD X (.type "str") dStrX := callr_mono (callr_or (cd_strI (X := X)) (SkE.call_str_str (X := X))) fun xs H Q h => by
  obtain ⟨cs, G, N, R, r1, rg, h, q⟩ := h
  unfold dStrX at h
  split at h
  · obtain ⟨v, r, rfl, r2, r3⟩ := r1.of_cons
    rw [r3.of_nil, r2.of_str]
    exact .inr ⟨_, rfl, q.at rg h (RD.str _)⟩
  · exact .inl ⟨cs, G, N, R, r1, rg, h, q⟩
theorem log_small {k : Nat} (h : k ≤ 100000) : ((k : Int).natAbs).log2 < 1920 := by
  rw [Int.natAbs_natCast]
  by_cases e : k = 0
  · subst e; decide
  · have h1 : k < 2 ^ 1920 := Nat.lt_of_le_of_lt h (by decide +kernel)
    exact (Nat.log2_lt e).mpr h1
end
theorem ofString_inj {a b : String} : (Str.ofString a = Str.ofString b) = (a = b) := by
  refine propext ⟨fun h => ?_, fun h => by rw [h]⟩
  rw [Str.ofString_eq_toList, Str.ofString_eq_toList] at h
  have h1 : a.toList.map Char.toNat = b.toList.map Char.toNat := congrArg (fun s : Str => s.cps.toList) h
  have inj : ∀ l m : List Char, l.map Char.toNat = m.map Char.toNat → l = m := by
    intro l
    induction l with
    | nil => intro m e; cases m <;> simp_all
    | cons c l ih =>
      intro m e
      cases m with
      | nil => simp at e
      | cons d m =>
        simp only [List.map_cons, List.cons.injEq] at e
        have : c = d := Char.toNat_inj.mp e.1
        rw [this, ih m e.2]
  exact String.toList_inj.mp (inj _ _ h1)
theorem len_lit {a : String} : (Str.ofString a).length = a.length := by
  rw [Str.ofString_eq_toList]
  unfold Str.length
  simp [String.length_toList]
theorem len_num {k : Nat} (h : k ≤ 1000) : (Str.ofString (toString (k : Int))).length ≤ 5 := by
  rw [len_lit]
  exact int_text_length_le10 (a := (k : Int)) (k := 4) (by decide) (by rw [Int.natAbs_natCast]; omega)
theorem len_app (a b : Str) : (a ++ b).length = a.length + b.length := by
  rw [← cds_len, ← cds_len, ← cds_len, cds_app, List.length_append]
theorem lc_cons {g : DG} {c : DT} {ta : DE} {σ : Sd} {gd : Gp → Prop} {x : D} {xs acc : List D} {G : Gp} {Q : List D → Gp → Prop} (h : gd G ∧ g x σ G fun σ2 G2 => c σ2 G2 fun b G3 => br b (ta σ2 G3 fun y G4 => dLcGo g c ta gd σ xs (acc ++ [y]) G4 Q) (dLcGo g c ta gd σ xs acc G3 Q)) : dLcGo g c ta gd σ (x :: xs) acc G Q := h
theorem for_cons {g : DG} {t : DS} {gd : Gp → Prop} {E : DEnds} {x : D} {xs : List D} {σ : Sd} {G : Gp} (h : gd G ∧ g x σ G fun σ2 G2 => t { E with nx := Kont (dForGo g t gd E xs), ct := Kont (dForGo g t gd E xs), bk := E.nx } σ2 G2) : dForGo g t gd E (x :: xs) σ G := h
theorem join_l {sep : Str} {G : Gp} {R : DK} {ds : List D} {zs : List Str} (e : strsOf ds = some zs) : dJoin (.str sep) [.lst ds] G R = ((zs.map fun z : Str => z.length).sum + zs.length * sep.length ≤ 16777216 ∧ R (.str (Txt.join sep zs)) G) := by
  show (match (seqOf G (.lst ds)).bind strsOf with | some ys => (ys.map fun z : Str => z.length).sum + ys.length * sep.length ≤ 16777216 ∧ R (.str (Txt.join sep ys)) G | none => False) = _
  have : (seqOf G (.lst ds)).bind strsOf = some zs := e
  rw [this]
theorem join_go {sep : Str} {G : Gp} {R : DK} {ds : List D} {zs : List Str} (e : strsOf ds = some zs) (hl : (zs.map fun z : Str => z.length).sum + zs.length * sep.length ≤ 16777216) (h : R (.str (Txt.join sep zs)) G) : dJoin (.str sep) [.lst ds] G R := by
  rw [join_l e]; exact ⟨hl, h⟩
theorem strsOf_strs (zs : List Str) : strsOf (zs.map D.str) = some zs := by
  induction zs with
  | nil => rfl
  | cons z zs ih => simp only [List.map_cons, strsOf, ih]
end DL

set_option Elab.async false
set_option linter.all false
set_option maxRecDepth 100000
set_option maxHeartbeats 4000000
set_option autoImplicit false
namespace DL
open PySem PySem.Spec PyProof.Rows L2
section
variable {X : Cx}
/-! ### isinstance(x, (a, b)) -/
def dIsiX : DRn := fun cs G R => match cs with
  | [x, .tup [.ty m, .ty n]] => m ∈ knownTy ∧ n ∈ knownTy ∧ (match tyD G x with | some t => R (.bl (isTy t m || isTy t n)) G | none => False)
  | cs => dIsi cs G R
theorem cd_isiX : CallD X (.builtin "isinstance") dIsiX := by
  intro pins s σ H xs us Q I r h
  obtain ⟨cs, G, N, R, rd, rg, h, q⟩ := h
  unfold dIsiX at h
  split at h
  · rename_i x m n
    obtain ⟨hm, hn, h⟩ := h
    obtain ⟨v, r', rfl, r1, r2⟩ := rd.of_cons
    obtain ⟨v', r'', rfl, r3, r4⟩ := r2.of_cons
    obtain rfl := r4.of_nil
    split at h
    · rename_i t et
      obtain ⟨ty, mt⟩ := tyD_ok rg r1 et
      obtain ⟨u1, u2, rfl, ru1, ru2⟩ := vals2 r
      obtain ⟨tp, vs, rfl, sq, rvs⟩ := r3.of_tup
      cases (show u2 = Value.ref tp from ru2)
      obtain ⟨a1, r5, rfl, e1, r6⟩ := rvs.of_cons
      obtain ⟨a2, r7, rfl, e2, r8⟩ := r6.of_cons
      obtain rfl := r8.of_nil
      obtain rfl := e1.of_ty
      obtain rfl := e2.of_ty
      obtain ⟨P, Z, p, hx⟩ := kit_of I ru1 ty
      obtain ⟨its, rv, ⟨o, h1, h2, k, h3⟩, _⟩ := I.tuple sq
      have e3 := ClsV.all (.cons (.ty m) (.cons (.ty n) .nil)) rv
      subst e3
      obtain ⟨oc, od, dt, sl⟩ := o
      simp only at h2 h3
      subst h2 h3
      have k1 := kit_ty (K := X.K) (kits t mt m hm)
      have k2 := kit_ty (K := X.K) (kits t mt n hn)
      refine PySem.W.kia_tup Z I.kIn p h1 (b := isTy t m || isTy t n) ?_ hx fun tk => ⟨.bl _, H, I.tok tk, rfl, q.at rg h (RD.bl _)⟩
      simp only [PySem.W.kitAny, k1, k2]
      cases isTy t m <;> cases isTy t n <;> rfl
    · exact h.elim
  · exact cd_isi pins s σ H xs us Q I r ⟨cs, G, N, R, rd, rg, h, q⟩
variable {G : Gp} {R : DK} {n m : String} {i : Int} {z : Str} {b : Bool} {ds : List D} {zs : List Str} {p : Addr}
theorem isi_i : dIsiX [.int i, .ty n] G R = (n ∈ knownTy ∧ R (.bl (isTy "int" n)) G) := rfl
theorem isi_s : dIsiX [.str z, .ty n] G R = (n ∈ knownTy ∧ R (.bl (isTy "str" n)) G) := rfl
theorem isi_b : dIsiX [.bl b, .ty n] G R = (n ∈ knownTy ∧ R (.bl (isTy "bool" n)) G) := rfl
theorem isi_n : dIsiX [.non, .ty n] G R = (n ∈ knownTy ∧ R (.bl (isTy "NoneType" n)) G) := rfl
theorem isi_t : dIsiX [.tup ds, .ty n] G R = (n ∈ knownTy ∧ R (.bl (isTy "tuple" n)) G) := rfl
theorem isi_nt : dIsiX [.nt zs, .ty n] G R = (n ∈ knownTy ∧ R (.bl (isTy "tuple" n)) G) := rfl
theorem isi_l : dIsiX [.lst ds, .ty n] G R = (n ∈ knownTy ∧ R (.bl (isTy "list" n)) G) := rfl
theorem isi2_i : dIsiX [.int i, .tup [.ty m, .ty n]] G R = (m ∈ knownTy ∧ n ∈ knownTy ∧ R (.bl (isTy "int" m || isTy "int" n)) G) := rfl
theorem isi2_s : dIsiX [.str z, .tup [.ty m, .ty n]] G R = (m ∈ knownTy ∧ n ∈ knownTy ∧ R (.bl (isTy "str" m || isTy "str" n)) G) := rfl
theorem isi2_b : dIsiX [.bl b, .tup [.ty m, .ty n]] G R = (m ∈ knownTy ∧ n ∈ knownTy ∧ R (.bl (isTy "bool" m || isTy "bool" n)) G) := rfl
theorem isi2_n : dIsiX [.non, .tup [.ty m, .ty n]] G R = (m ∈ knownTy ∧ n ∈ knownTy ∧ R (.bl (isTy "NoneType" m || isTy "NoneType" n)) G) := rfl
theorem isi2_t : dIsiX [.tup ds, .tup [.ty m, .ty n]] G R = (m ∈ knownTy ∧ n ∈ knownTy ∧ R (.bl (isTy "tuple" m || isTy "tuple" n)) G) := rfl
theorem isi2_nt : dIsiX [.nt zs, .tup [.ty m, .ty n]] G R = (m ∈ knownTy ∧ n ∈ knownTy ∧ R (.bl (isTy "tuple" m || isTy "tuple" n)) G) := rfl
theorem isi2_l : dIsiX [.lst ds, .tup [.ty m, .ty n]] G R = (m ∈ knownTy ∧ n ∈ knownTy ∧ R (.bl (isTy "list" m || isTy "list" n)) G) := rfl
theorem kt1 : ("int" ∈ knownTy) = True := by decide
theorem kt2 : ("bool" ∈ knownTy) = True := by decide
theorem kt3 : ("str" ∈ knownTy) = True := by decide
theorem kt4 : ("tuple" ∈ knownTy) = True := by decide
theorem kt5 : ("list" ∈ knownTy) = True := by decide
theorem kt6 : ("dict" ∈ knownTy) = True := by decide
end
/-! ### slices by numbers -/
theorem cut1 {α : Type} {a : α} {xs : List α} : cutL (a :: xs) (some 1) none = xs := by
  unfold cutL; simp [HT.sIx]
theorem cut2 {α : Type} {a b : α} {xs : List α} : cutL (a :: b :: xs) (some 2) none = xs := by
  unfold cutL; simp [HT.sIx]
/-! ### local lists -/
section
variable {G : Gp} {R : DK} {p : Addr} {d : D} {o : GO} {ds : List D}
theorem rt_drop (hp : G p = none) (h : R d G) : Rt R d (gup G p o) := ret_sub (Sub.new hp) h
theorem mty_up : mty (gup G p (.lst ds)) (.ref p) = some "list" := by unfold mty; simp only [gup_same]
theorem mty_at (e : G p = some (.lst ds)) : mty G (.ref p) = some "list" := by unfold mty; simp only [e]
theorem rt_lst (hp : G p = none) (h : R (.lst ds) G) : Rt R (.ref p) (gup G p (.lst ds)) := ret_lst gup_same (Sub.new hp) hp h
theorem join_gor {sep : Str} {zs : List Str} (e : G p = some (.lst ds)) (e2 : strsOf ds = some zs) (hl : (zs.map fun z : Str => z.length).sum + zs.length * sep.length ≤ 16777216) (h : R (.str (Txt.join sep zs)) G) : dJoin (.str sep) [.ref p] G R := by
  have : (seqOf G (.ref p)).bind strsOf = some zs := by
    have e3 : seqOf G (.ref p) = some ds := by unfold seqOf lstOf; simp only [e]
    rw [e3]; exact e2
  show (match (seqOf G (.ref p)).bind strsOf with | some ys => (ys.map fun z : Str => z.length).sum + ys.length * sep.length ≤ 16777216 ∧ R (.str (Txt.join sep ys)) G | none => False)
  rw [this]
  exact ⟨hl, h⟩
end
end DL

set_option Elab.async false
set_option linter.all false
set_option maxRecDepth 100000
set_option maxHeartbeats 4000000
set_option autoImplicit false
namespace DL
open PySem PySem.Spec PyProof.Rows L2
/-! ### the order of keys -/
/-! ### choosing the first least one, again and again, sorts -/
section
variable {α : Type} {le : α → α → Bool} (tr : ∀ a b c, le a b = true → le b c = true → le a c = true) (to : ∀ a b, (le a b || le b a) = true)
include tr to in
end
end DL

set_option Elab.async false
set_option linter.all false
set_option maxRecDepth 100000
set_option maxHeartbeats 4000000
set_option autoImplicit false
namespace DL
open PySem PySem.Spec PyProof.Rows L2
section
variable {G : Gp} {R : DK} {p q s : Addr} {d : D} {o o' u : GO} {ds es : List D} {mk : Bool}
theorem newL_t : newL true ds G R = ∀ p, G p = none → R (.ref p) (gup G p (.lst ds)) := rfl
theorem lstOf_r (e : G p = some (.lst ds)) : lstOf G (.ref p) = some ds := by unfold lstOf; simp only [e]
theorem seqOf_r (e : G p = some (.lst ds)) : seqOf G (.ref p) = some ds := by unfold seqOf; exact lstOf_r e
theorem tuple_r (e : G p = some (.lst ds)) : dTuple [.ref p] G R = R (.tup ds) G := by
  show (match seqOf G (.ref p) with | some ds => R (.tup ds) G | none => False) = _
  rw [seqOf_r e]
theorem atL_at {k : List D → Prop} (e : G p = some (.lst ds)) : atL (G p) k = k ds := by rw [e]; rfl
theorem sub_keep (h : s ≠ p) (hp : G p = none) : Sub (gup G s o) (gup (gup G p u) s o) := by
  rw [gup_comm h.symm]
  exact Sub.new (by rw [gup_ne h.symm]; exact hp)
end
end DL

set_option Elab.async false
set_option linter.all false
set_option maxRecDepth 100000
set_option maxHeartbeats 4000000
set_option autoImplicit false
namespace DL
open PySem PySem.Spec PyProof.Rows L2
/-! ### data that can be keys, nested: their hashes -/
mutual
def hasK : PyData → Bool
  | .int _ => true | .str _ => true | .bool _ => true
  | .tuple xs => hasKs xs
  | _ => false
def hasKs : List PyData → Bool
  | [] => true
  | x :: xs => hasK x && hasKs xs
end
mutual
def hshK (w : World) : PyData → Int
  | .int i => hashInt i
  | .str x => hashStr w x
  | .bool b => hashInt (if b then 1 else 0)
  | .tuple xs => reduceHash (Builtin.Tuple.tupleHashOf (hshKs w xs))
  | _ => 0
def hshKs (w : World) : List PyData → List Int
  | [] => []
  | x :: xs => hshK w x :: hshKs w xs
end
mutual
def drwK : PyData → Nat
  | .tuple xs => drwKs xs + 1
  | _ => 1
def drwKs : List PyData → Nat
  | [] => 0
  | x :: xs => drwK x + drwKs xs
end
section
variable {prog : Program} {w : World}
variable {A : Around} {E : Value → Shared → Prop} {s : Shared}
/-- a hash by its type's own slot -/
theorem hash_slot {T id : String} {f : Builtin} {v : Value} {Q : Int → Shared → Prop} (hT : s.TypeIs v T) (room : [v].any Value.onHeap = false ∨ A.units < cLine) (sl : Slot T "__hash__" id) (en : entryFor table id = some f) (ok : argsOk id ⟨[v], []⟩) (ns : ∀ x t, v ≠ .str x t)
    (run : wpAny (model prog w) A.in1 (f ⟨[v], []⟩) (fun r s' => ∃ i t, r = .done (.ret (.int i t)) ∧ Q (reduceHash i) s') E s) : wpAny (model prog w) A (pyHash v) Q E s := by
  have e : pyHash v = pyHashByItsType v := by
    cases v with
    | str x t => exact absurd rfl (ns x t)
    | _ => rfl
  have nn : (some (Value.builtin id) == some Value.none) = false := by rw [beq_builtin_none]
  rw [e]
  unfold pyHashByItsType
  refine wpAny_bind (wpAny_cRoomFor_or room (wpAny_bind (wpAny_specialOf hT sl.lookup ?_)))
  simp only [nn, Bool.false_eq_true, if_false]
  refine wpAny_bind (wpAny_specialOf hT sl.lookup ?_)
  simp only [Option.isNone_some, Bool.false_eq_true, if_false]
  refine wpAny_bind (wpAny_callSpecialIfBoundUnlessNone?_slot hT sl (wpAny_call_entry sl hT en (wpAny_mono run (fun r s' h => ?_) fun _ _ x => x) ok))
  obtain ⟨i, t, rfl, q⟩ := h
  refine ⟨_, rfl, ?_⟩
  show wpAny _ _ (pyHashByItsType.reduced i) Q E s'
  unfold pyHashByItsType.reduced
  unfold reduceHash at q
  cases c : (decide (-(2 ^ 63 : Int) ≤ i) && decide (i < 2 ^ 63)) with
  | true =>
    rw [c] at q
    simp only [if_true] at q ⊢
    exact wpAny_pure q
  | false =>
    rw [c] at q
    simp only [Bool.false_eq_true, if_false] at q ⊢
    exact wpAny_bind (wpAny_rule (wpAny_pure q))
theorem hash_bool {b : Bool} {Q : Int → Shared → Prop} (q : Q (hashInt (if b then 1 else 0)) { s with toks := s.toks + 1 }) : wpAny (model prog w) A (pyHash (.bool b)) Q E s := by
  refine hash_slot (T := "bool") (f := Builtin.«int.__hash__») rfl (.inl rfl) F.slot_bool_hash entry_int_hash (args_int_hash _) (fun x t h => by cases h) ?_
  have e : reduceHash (rawHash (if b then 1 else 0)) = hashInt (if b then 1 else 0) := by cases b <;> decide +kernel
  have run : wpAny (model prog w) A.in1 (do ret (← mkInt (rawHash (if b then 1 else 0)))) (fun r s' => ∃ i t, r = .done (.ret (.int i t)) ∧ Q (reduceHash i) s') E s := by
    refine wpAny_mono (wpAny_ret_mkInt (Q := fun v s' => ∃ i t, v = .int i t ∧ Q (reduceHash i) s') ⟨_, _, rfl, by rw [e]; exact q⟩) (fun r s' h => ?_) fun _ _ x => x
    obtain ⟨v, rfl, i, t, rfl, h⟩ := h
    exact ⟨i, t, rfl, h⟩
  cases b with
  | true => exact run
  | false => exact run
mutual
theorem hash_data : ∀ (d : PyData) {A : Around} {E : Value → Shared → Prop} {s : Shared} {v : Value} {as : List Addr} {Q : Int → Shared → Prop}, Reads s.heap v d as → hasK d = true → A.units + d.depth < cLine → Q (hshK w d) { s with toks := s.toks + drwK d } → wpAny (model prog w) A (pyHash v) Q E s
  | .int i, A, E, s, v, as, Q, r, _, _, q => by cases r; exact wpAny_pyHash_int (by simpa only [hshK, drwK] using q)
  | .str x, A, E, s, v, as, Q, r, _, _, q => by cases r; exact wpAny_pyHash_str (by simpa only [hshK, drwK] using q)
  | .bool b, A, E, s, v, as, Q, r, _, _, q => by cases r; exact hash_bool (by simpa only [hshK, drwK] using q)
  | .tuple xs, A, E, s, v, as, Q, r, hk, hu, q => by
    cases r with
    | tuple h1 h2 h3 h4 =>
      rename_i a o vs n
      simp only [hasK] at hk
      simp only [PyData.depth] at hu
      refine hash_slot (T := "tuple") (f := Builtin.«tuple.__hash__») ⟨o, h1, h2⟩ (.inr (by omega)) F.slot_tuple_hash F.entry_tuple_hash (F.args_tuple_hash_1 _) (fun x t h => by cases h) ?_
      show wpAny _ _ (do
        let mut hs : Array Int := #[]
        for x in ← Builtin.Tuple.tupleItemsOf (.ref a) do hs := hs.push (← pyHash x)
        retInt (Builtin.Tuple.tupleHashOf hs.toList)) _ E s
      refine wpAny_bind (wpAny_tupleItemsOf h1 h3 (wpAny_bind ?_))
      rw [← Array.forIn_toList]
      refine hash_all xs #[] h4 hk (by show A.units + 1 + PyData.depthAll xs < cLine; omega) ?_
      simp only [hshK, drwK] at q
      refine wpAny_mono (wpAny_ret_mkInt (Q := fun v s' => ∃ i t, v = .int i t ∧ Q (reduceHash i) s') ⟨_, _, rfl, ?_⟩) (fun r s' h => ?_) fun _ _ x => x
      · simpa [Nat.add_assoc] using q
      · obtain ⟨v, rfl, i, t, rfl, h⟩ := h
        exact ⟨i, t, rfl, h⟩
  | .none, _, _, _, _, _, _, _, hk, _, _ => by simp [hasK] at hk
  | .list _, _, _, _, _, _, _, _, hk, _, _ => by simp [hasK] at hk
  | .dict _, _, _, _, _, _, _, _, hk, _, _ => by simp [hasK] at hk
theorem hash_all : ∀ (xs : List PyData) (acc : Array Int) {A : Around} {E : Value → Shared → Prop} {s : Shared} {vs : List Value} {as : List Addr} {Q : Array Int → Shared → Prop}, ReadsAll s.heap vs xs as → hasKs xs = true → A.units + PyData.depthAll xs < cLine →
    Q (acc ++ (hshKs w xs).toArray) { s with toks := s.toks + drwKs xs } → wpAny (model prog w) A (forIn vs acc fun x r => do let h ← pyHash x; pure (ForInStep.yield (r.push h))) Q E s
  | [], acc, A, E, s, vs, as, Q, r, _, _, q => by
    cases r
    rw [List.forIn_nil]
    exact wpAny_pure (by simpa [hshKs, drwKs] using q)
  | d :: xs, acc, A, E, s, vs, as, Q, r, hk, hu, q => by
    cases r with
    | cons r1 r2 =>
      simp only [hasKs, Bool.and_eq_true] at hk
      simp only [PyData.depthAll] at hu
      rw [List.forIn_cons]
      refine wpAny_bind (wpAny_bind (hash_data d r1 hk.1 (by omega) (wpAny_pure ?_)))
      refine hash_all xs _ r2 hk.2 (by omega) ?_
      simpa [hshKs, drwKs, Nat.add_assoc] using q
end
end
end DL

set_option Elab.async false
set_option linter.all false
set_option maxRecDepth 100000
set_option maxHeartbeats 4000000
set_option autoImplicit false
namespace DL
open PySem PySem.Spec PyProof.Rows L2
section
variable {prog : Program} {w : World}
/-! ### such data compare quietly -/
mutual
theorem quiet_data : ∀ (d : PyData) (n : Nat) {A : Around} {E : Value → Shared → Prop} {s : Shared} {v : Value} {as : List Addr} {Q : Bool → Shared → Prop}, Reads s.heap v d as → hasK d = true → d.depth ≤ n → Q true s → wpAny (model prog w) A (eqIsQuiet n v) Q E s
  | .int i, n, A, E, s, v, as, Q, r, _, _, q => by cases r; rw [eqIsQuiet_byValue n rfl]; exact wpAny_pure q
  | .str x, n, A, E, s, v, as, Q, r, _, _, q => by cases r; rw [eqIsQuiet_byValue n rfl]; exact wpAny_pure q
  | .bool b, n, A, E, s, v, as, Q, r, _, _, q => by cases r; rw [eqIsQuiet_byValue n rfl]; exact wpAny_pure q
  | .tuple xs, 0, A, E, s, v, as, Q, r, hk, hu, q => by simp [PyData.depth] at hu
  | .tuple xs, n + 1, A, E, s, v, as, Q, r, hk, hu, q => by
    cases r with
    | tuple h1 h2 h3 h4 =>
      rename_i a o vs m
      simp only [hasK] at hk
      simp only [PyData.depth] at hu
      have ty : s.TypeIs (.ref a) "tuple" := ⟨o, h1, h2⟩
      unfold eqIsQuiet
      refine wpAny_bind (wpAny_specialOf ty F.slot_tuple_eq.lookup ?_)
      show wpAny _ _ (do
        if !(← isInstance (.ref a) (.type "tuple")) then return false
        for y in (← seqItems? (.ref a)).getD #[] do
          if !(← eqIsQuiet n y) then return false
        return true) Q E s
      refine wpAny_bind (wpAny_isInstance ty isSubtype_tuple_tuple ?_)
      simp only [Bool.not_true, Bool.false_eq_true, if_false]
      refine wpAny_bind (wpAny_seqItems h1 h3 (wpAny_bind ?_))
      show wpAny _ _ (forIn vs _ _) _ _ s
      rw [← Array.forIn_toList]
      refine quiet_all xs n h4 hk (by omega) ?_
      exact wpAny_pure q
  | .none, _, _, _, _, _, _, _, _, hk, _, _ => by simp [hasK] at hk
  | .list _, _, _, _, _, _, _, _, _, hk, _, _ => by simp [hasK] at hk
  | .dict _, _, _, _, _, _, _, _, _, hk, _, _ => by simp [hasK] at hk
theorem quiet_all : ∀ (xs : List PyData) (n : Nat) {A : Around} {E : Value → Shared → Prop} {s : Shared} {vs : List Value} {as : List Addr} {Q : Option Bool × Unit → Shared → Prop}, ReadsAll s.heap vs xs as → hasKs xs = true → PyData.depthAll xs ≤ n → Q (none, ()) s →
    wpAny (model prog w) A (forIn vs ((none, ()) : Option Bool × Unit) fun y r => do
      if (!(← eqIsQuiet n y)) = true then pure (ForInStep.done (some false, ())) else pure (ForInStep.yield (none, ()))) Q E s
  | [], n, A, E, s, vs, as, Q, r, _, _, q => by
    cases r
    rw [List.forIn_nil]
    exact wpAny_pure q
  | d :: xs, n, A, E, s, vs, as, Q, r, hk, hu, q => by
    cases r with
    | cons r1 r2 =>
      simp only [hasKs, Bool.and_eq_true] at hk
      simp only [PyData.depthAll] at hu
      rw [List.forIn_cons]
      refine wpAny_bind (wpAny_bind (quiet_data d n r1 hk.1 (by omega) ?_))
      simp only [Bool.not_true, Bool.false_eq_true, if_false]
      exact wpAny_pure (quiet_all xs n r2 hk.2 (by omega) q)
end
end
end DL

set_option Elab.async false
set_option linter.all false
set_option maxRecDepth 100000
set_option maxHeartbeats 4000000
set_option autoImplicit false
namespace DL
open PySem PySem.Spec PyProof.Rows L2
/-! ### what is the same, among such data -/
mutual
theorem eqv_sym : ∀ a b : PyData, PyData.eqv a b = PyData.eqv b a
  | .none, .none => rfl
  | .none, .bool b => rfl
  | .none, .int b => rfl
  | .none, .str b => rfl
  | .none, .list b => rfl
  | .none, .tuple b => rfl
  | .none, .dict b => rfl
  | .bool a, .none => rfl
  | .bool a, .bool b => by simp only [PyData.eqv]; exact Bool.beq_comm
  | .bool a, .int b => by simp only [PyData.eqv]; exact Bool.beq_comm
  | .bool a, .str b => rfl
  | .bool a, .list b => rfl
  | .bool a, .tuple b => rfl
  | .bool a, .dict b => rfl
  | .int a, .none => rfl
  | .int a, .bool b => by simp only [PyData.eqv]; exact Bool.beq_comm
  | .int a, .int b => by simp only [PyData.eqv]; exact Bool.beq_comm
  | .int a, .str b => rfl
  | .int a, .list b => rfl
  | .int a, .tuple b => rfl
  | .int a, .dict b => rfl
  | .str a, .none => rfl
  | .str a, .bool b => rfl
  | .str a, .int b => rfl
  | .str a, .str b => by simp only [PyData.eqv]; exact Bool.beq_comm
  | .str a, .list b => rfl
  | .str a, .tuple b => rfl
  | .str a, .dict b => rfl
  | .list a, .none => rfl
  | .list a, .bool b => rfl
  | .list a, .int b => rfl
  | .list a, .str b => rfl
  | .list a, .list b => by simp only [PyData.eqv]; exact eqvAll_sym a b
  | .list a, .tuple b => rfl
  | .list a, .dict b => rfl
  | .tuple a, .none => rfl
  | .tuple a, .bool b => rfl
  | .tuple a, .int b => rfl
  | .tuple a, .str b => rfl
  | .tuple a, .list b => rfl
  | .tuple a, .tuple b => by simp only [PyData.eqv]; exact eqvAll_sym a b
  | .tuple a, .dict b => rfl
  | .dict a, .none => rfl
  | .dict a, .bool b => rfl
  | .dict a, .int b => rfl
  | .dict a, .str b => rfl
  | .dict a, .list b => rfl
  | .dict a, .tuple b => rfl
  | .dict a, .dict b => rfl
theorem eqvAll_sym : ∀ xs ys : List PyData, PyData.eqvAll xs ys = PyData.eqvAll ys xs
  | [], [] => rfl
  | [], _ :: _ => rfl
  | _ :: _, [] => rfl
  | x :: xs, y :: ys => by simp only [PyData.eqvAll, eqv_sym x y, eqvAll_sym xs ys]
end
mutual
theorem eqv_trs : ∀ a b c : PyData, hasK a = true → hasK b = true → hasK c = true → PyData.eqv a b = true → PyData.eqv b c = true → PyData.eqv a c = true
  | .tuple xs, .tuple ys, .tuple zs, h1, h2, h3, e1, e2 => by
    simp only [PyData.eqv, hasK] at *
    exact eqvAll_trs xs ys zs h1 h2 h3 e1 e2
  | .str x, .str y, .str z, _, _, _, e1, e2 => by
    simp only [PyData.eqv, beq_iff_eq] at *
    rw [e1, e2]
  | .int i, b, c, _, hb, hc, e1, e2 => by
    cases b <;> cases c <;> simp only [PyData.eqv, hasK, Bool.false_eq_true, beq_iff_eq] at * <;> simp_all
  | .bool i, b, c, _, hb, hc, e1, e2 => by
    cases b <;> cases c <;> simp only [PyData.eqv, hasK, Bool.false_eq_true, beq_iff_eq] at * <;> simp_all
    rename_i b c
    cases i <;> cases c <;> simp_all
  | .tuple _, .int _, _, _, _, _, e1, _ => by simp [PyData.eqv] at e1
  | .tuple _, .str _, _, _, _, _, e1, _ => by simp [PyData.eqv] at e1
  | .tuple _, .bool _, _, _, _, _, e1, _ => by simp [PyData.eqv] at e1
  | .tuple _, .tuple _, .int _, _, _, _, _, e2 => by simp [PyData.eqv] at e2
  | .tuple _, .tuple _, .str _, _, _, _, _, e2 => by simp [PyData.eqv] at e2
  | .tuple _, .tuple _, .bool _, _, _, _, _, e2 => by simp [PyData.eqv] at e2
  | .str _, .int _, _, _, _, _, e1, _ => by simp [PyData.eqv] at e1
  | .str _, .tuple _, _, _, _, _, e1, _ => by simp [PyData.eqv] at e1
  | .str _, .bool _, _, _, _, _, e1, _ => by simp [PyData.eqv] at e1
  | .str _, .str _, .int _, _, _, _, _, e2 => by simp [PyData.eqv] at e2
  | .str _, .str _, .tuple _, _, _, _, _, e2 => by simp [PyData.eqv] at e2
  | .str _, .str _, .bool _, _, _, _, _, e2 => by simp [PyData.eqv] at e2
  | .none, _, _, h, _, _, _, _ => by simp [hasK] at h
  | .list _, _, _, h, _, _, _, _ => by simp [hasK] at h
  | .dict _, _, _, h, _, _, _, _ => by simp [hasK] at h
  | .tuple _, .none, _, _, h, _, _, _ => by simp [hasK] at h
  | .tuple _, .list _, _, _, h, _, _, _ => by simp [hasK] at h
  | .tuple _, .dict _, _, _, h, _, _, _ => by simp [hasK] at h
  | .str _, .none, _, _, h, _, _, _ => by simp [hasK] at h
  | .str _, .list _, _, _, h, _, _, _ => by simp [hasK] at h
  | .str _, .dict _, _, _, h, _, _, _ => by simp [hasK] at h
  | .tuple _, .tuple _, .none, _, _, h, _, _ => by simp [hasK] at h
  | .tuple _, .tuple _, .list _, _, _, h, _, _ => by simp [hasK] at h
  | .tuple _, .tuple _, .dict _, _, _, h, _, _ => by simp [hasK] at h
  | .str _, .str _, .none, _, _, h, _, _ => by simp [hasK] at h
  | .str _, .str _, .list _, _, _, h, _, _ => by simp [hasK] at h
  | .str _, .str _, .dict _, _, _, h, _, _ => by simp [hasK] at h
theorem eqvAll_trs : ∀ xs ys zs : List PyData, hasKs xs = true → hasKs ys = true → hasKs zs = true → PyData.eqvAll xs ys = true → PyData.eqvAll ys zs = true → PyData.eqvAll xs zs = true
  | [], [], [], _, _, _, _, _ => rfl
  | x :: xs, y :: ys, z :: zs, h1, h2, h3, e1, e2 => by
    simp only [PyData.eqvAll, hasKs, Bool.and_eq_true] at *
    exact ⟨eqv_trs x y z h1.1 h2.1 h3.1 e1.1 e2.1, eqvAll_trs xs ys zs h1.2 h2.2 h3.2 e1.2 e2.2⟩
  | [], _ :: _, _, _, _, _, e1, _ => by simp [PyData.eqvAll] at e1
  | _ :: _, [], _, _, _, _, e1, _ => by simp [PyData.eqvAll] at e1
  | [], [], _ :: _, _, _, _, _, e2 => by simp [PyData.eqvAll] at e2
  | _ :: _, _ :: _, [], _, _, _, _, e2 => by simp [PyData.eqvAll] at e2
end
mutual
theorem eqv_hsh (w : World) : ∀ a b : PyData, hasK a = true → hasK b = true → PyData.eqv a b = true → hshK w a = hshK w b
  | .tuple xs, .tuple ys, h1, h2, e => by
    simp only [PyData.eqv, hasK] at *
    simp only [hshK, eqvAll_hsh w xs ys h1 h2 e]
  | .tuple xs, .int _, _, _, e => by simp [PyData.eqv] at e
  | .tuple xs, .str _, _, _, e => by simp [PyData.eqv] at e
  | .tuple xs, .bool _, _, _, e => by simp [PyData.eqv] at e
  | .tuple xs, .none, _, h, _ => by simp [hasK] at h
  | .tuple xs, .list _, _, h, _ => by simp [hasK] at h
  | .tuple xs, .dict _, _, h, _ => by simp [hasK] at h
  | .int i, b, _, hb, e => by cases b <;> simp only [PyData.eqv, hasK, hshK, Bool.false_eq_true, beq_iff_eq] at * <;> rw [e]
  | .bool i, b, _, hb, e => by cases b <;> simp only [PyData.eqv, hasK, hshK, Bool.false_eq_true, beq_iff_eq] at * <;> rw [e]
  | .str i, b, _, hb, e => by cases b <;> simp only [PyData.eqv, hasK, hshK, Bool.false_eq_true, beq_iff_eq] at * <;> rw [e]
  | .none, _, h, _, _ => by simp [hasK] at h
  | .list _, _, h, _, _ => by simp [hasK] at h
  | .dict _, _, h, _, _ => by simp [hasK] at h
theorem eqvAll_hsh (w : World) : ∀ xs ys : List PyData, hasKs xs = true → hasKs ys = true → PyData.eqvAll xs ys = true → hshKs w xs = hshKs w ys
  | [], [], _, _, _ => rfl
  | x :: xs, y :: ys, h1, h2, e => by
    simp only [PyData.eqvAll, hasKs, Bool.and_eq_true] at *
    simp only [hshKs, eqv_hsh w x y h1.1 h2.1 e.1, eqvAll_hsh w xs ys h1.2 h2.2 e.2]
  | [], _ :: _, _, _, e => by simp [PyData.eqvAll] at e
  | _ :: _, [], _, _, e => by simp [PyData.eqvAll] at e
end
mutual
theorem hasK_plain : ∀ a : PyData, hasK a = true → a.plain = true
  | .tuple xs, h => by simp only [hasK] at h; simp only [PyData.plain]; exact hasKs_plain xs h
  | .int _, _ => rfl
  | .str _, _ => rfl
  | .bool _, _ => rfl
  | .none, h => by simp [hasK] at h
  | .list _, h => by simp [hasK] at h
  | .dict _, h => by simp [hasK] at h
theorem hasKs_plain : ∀ xs : List PyData, hasKs xs = true → PyData.plainAll xs = true
  | [], _ => rfl
  | x :: xs, h => by simp only [hasKs, Bool.and_eq_true] at h; simp only [PyData.plainAll, hasK_plain x h.1, hasKs_plain xs h.2, Bool.and_self]
end
end DL

set_option Elab.async false
set_option linter.all false
set_option maxRecDepth 100000
set_option maxHeartbeats 4000000
set_option autoImplicit false
namespace DL
open PySem PySem.Spec PyProof.Rows L2
/-! ### dicts whose keys are such data -/
structure Ents (w : World) (h : Heap) (ks : List PyData) (es : Array DictEntry) : Prop where
  len : es.size = ks.length
  at_ : ∀ (i : Nat) (e : DictEntry) (k : PyData), es[i]? = some e → ks[i]? = some k → e.hash = hshK w k ∧ ∃ as, Reads h e.key k as
  has : ∀ k ∈ ks, hasK k = true ∧ k.depth ≤ 8
  uniq : ∀ (i j : Nat) (a b : PyData), i < j → ks[i]? = some a → ks[j]? = some b → PyData.eqv a b = false
section
variable {prog : Program} {w : World} {A : Around} {E : Value → Shared → Prop} {s : Shared} {d : Addr} {o : Obj} {es : Array DictEntry} {ep : Nat} {ks : List PyData} {key : Value} {k : PyData} {as : List Addr}
theorem Ents.get (X : Ents w s.heap ks es) {i : Nat} (hi : i < es.size) : ∃ e a, es[i]? = some e ∧ ks[i]? = some a ∧ e.hash = hshK w a ∧ (∃ as, Reads s.heap e.key a as) ∧ hasK a = true ∧ a.depth ≤ 8 := by
  have h2 : i < ks.length := by rw [← X.len]; exact hi
  have h3 := X.at_ i es[i] ks[i] (Array.getElem?_eq_getElem hi) (List.getElem?_eq_getElem h2)
  have h4 := X.has ks[i] (List.getElem_mem h2)
  exact ⟨_, _, Array.getElem?_eq_getElem hi, List.getElem?_eq_getElem h2, h3.1, h3.2, h4⟩
theorem Ents.same (X : Ents w s.heap ks es) {i j : Nat} {a b : PyData} (hi : ks[i]? = some a) (hj : ks[j]? = some b) (hk : hasK k = true) (h1 : PyData.eqv a k = true) (h2 : PyData.eqv b k = true) : i = j := by
  have ka := (X.has a (List.mem_of_getElem? hi)).1
  have kb := (X.has b (List.mem_of_getElem? hj)).1
  have e : PyData.eqv a b = true := eqv_trs a k b ka hk kb h1 (by rw [eqv_sym]; exact h2)
  rcases Nat.lt_trichotomy i j with h | h | h
  · rw [X.uniq i j a b h hi hj] at e; cases e
  · exact h
  · rw [eqv_sym, X.uniq j i b a h hj hi] at e; cases e
theorem find_at {i : Nat} {a : PyData} (X : Ents w s.heap ks es) (hk : hasK k = true) (hi : ks[i]? = some a) (h : PyData.eqv a k = true) : ks.findIdx? (fun z => PyData.eqv z k) = some i := by
  rw [List.findIdx?_eq_some_iff_getElem]
  have hl := (List.getElem?_eq_some_iff.mp hi).1
  have he := (List.getElem?_eq_some_iff.mp hi).2
  refine ⟨hl, by rw [he]; exact h, fun j hj => ?_⟩
  intro c
  have hj2 : j < ks.length := by omega
  have := X.same (List.getElem?_eq_getElem hj2) hi hk c h
  omega
/-- going through places of which one at most is right -/
theorem scan_go {M : Model} {yes : Nat → Bool} {few : Bool} {f : Nat → Option (Option Nat) × Option Nat → Sem (ForInStep (Option (Option Nat) × Option Nat))} :
    ∀ (ps : List Nat), (∀ i ∈ ps, yes i = true → ∀ (R : ForInStep (Option (Option Nat) × Option Nat) → Shared → Prop), R (if few then .done (some (some i), none) else .yield (none, some i)) s → wpAny M A (f i (none, none)) R E s) →
      (∀ i ∈ ps, yes i = false → ∀ st (R : ForInStep (Option (Option Nat) × Option Nat) → Shared → Prop), R (.yield (none, st)) s → wpAny M A (f i (none, st)) R E s) → (ps.Pairwise fun i j => yes i = true → yes j = false) →
      ∀ (st : Option Nat), (st ≠ none → ∀ i ∈ ps, yes i = false) → ∀ (Q : Option (Option Nat) × Option Nat → Shared → Prop), (∀ r, (match r.1 with | some x => x | none => r.2) = (match st with | some x => some x | none => ps.find? yes) → Q r s) → wpAny M A (forIn ps ((none, st) : Option (Option Nat) × Option Nat) f) Q E s
  | [], _, _, _, st, _, Q, q => by
    rw [List.forIn_nil]
    refine wpAny_pure (q _ ?_)
    cases st <;> rfl
  | i :: ps, hit, miss, pw, st, hst, Q, q => by
    rw [List.forIn_cons]
    have pw2 := (List.pairwise_cons.mp pw)
    cases hy : yes i with
    | true =>
      have es : st = none := by
        cases st with
        | none => rfl
        | some x => have := hst (by simp) i (by simp); rw [hy] at this; cases this
      subst es
      refine wpAny_bind (hit i (by simp) hy _ ?_)
      cases few with
      | true => exact wpAny_pure (q _ (by simp [hy]))
      | false =>
        refine scan_go ps (fun j hj => hit j (List.mem_cons_of_mem _ hj)) (fun j hj => miss j (List.mem_cons_of_mem _ hj)) pw2.2 (some i) (fun _ j hj => pw2.1 j hj hy) Q fun r hr => q r ?_
        rw [hr]; simp [hy]
    | false =>
      refine wpAny_bind (miss i (by simp) hy st _ ?_)
      refine scan_go ps (fun j hj => hit j (List.mem_cons_of_mem _ hj)) (fun j hj => miss j (List.mem_cons_of_mem _ hj)) pw2.2 st (fun h j hj => hst h j (List.mem_cons_of_mem _ hj)) Q fun r hr => q r ?_
      rw [hr]; cases st <;> simp [hy]
theorem walk_go {M : Model} {yes : Nat → Bool} {f : Nat → Option (Option Nat) × Unit → Sem (ForInStep (Option (Option Nat) × Unit))} :
    ∀ (ps : List Nat), (∀ i ∈ ps, yes i = true → ∀ (R : ForInStep (Option (Option Nat) × Unit) → Shared → Prop), R (.done (some (some i), ())) s → wpAny M A (f i (none, ())) R E s) →
      (∀ i ∈ ps, yes i = false → ∀ (R : ForInStep (Option (Option Nat) × Unit) → Shared → Prop), R (.yield (none, ())) s → wpAny M A (f i (none, ())) R E s) →
      ∀ (Q : Option (Option Nat) × Unit → Shared → Prop), (∀ r, (match r.1 with | some x => x | none => none) = ps.find? yes → Q r s) → wpAny M A (forIn ps ((none, ()) : Option (Option Nat) × Unit) f) Q E s
  | [], _, _, Q, q => by
    rw [List.forIn_nil]
    exact wpAny_pure (q _ rfl)
  | i :: ps, hit, miss, Q, q => by
    rw [List.forIn_cons]
    cases hy : yes i with
    | true => exact wpAny_bind (hit i (by simp) hy _ (wpAny_pure (q _ (by simp [hy]))))
    | false =>
      refine wpAny_bind (miss i (by simp) hy _ (walk_go ps (fun j hj => hit j (List.mem_cons_of_mem _ hj)) (fun j hj => miss j (List.mem_cons_of_mem _ hj)) Q fun r hr => q r ?_))
      rw [hr]; simp [hy]
/-- the places with a hash -/
theorem places_mem (X : Ents w s.heap ks es) {i : Nat} {z : Int} : i ∈ placesWithHash es.size (fun i => es[i]?.map (·.hash)) z ↔ ∃ e a, es[i]? = some e ∧ ks[i]? = some a ∧ e.hash = z := by
  unfold placesWithHash
  rw [List.mem_filter, List.mem_range]
  constructor
  · rintro ⟨h1, h2⟩
    obtain ⟨e, a, h3, h4, _⟩ := X.get h1
    refine ⟨e, a, h3, h4, ?_⟩
    simp only [h3, Option.map_some] at h2
    simpa using h2
  · rintro ⟨e, a, h3, h4, h5⟩
    refine ⟨(Array.getElem?_eq_some_iff.mp h3).1, ?_⟩
    simp only [h3, Option.map_some]
    simp [h5]
theorem places_find (X : Ents w s.heap ks es) (hk : hasK k = true) : (placesWithHash es.size (fun i => es[i]?.map (·.hash)) (hshK w k)).find? (fun i => match ks[i]? with | some a => PyData.eqv a k | none => false) = ks.findIdx? fun z => PyData.eqv z k := by
  cases h : (placesWithHash es.size (fun i => es[i]?.map (·.hash)) (hshK w k)).find? (fun i => match ks[i]? with | some a => PyData.eqv a k | none => false) with
  | some i =>
    have h1 := List.find?_some h
    split at h1
    · rename_i a ha
      exact (find_at X hk ha h1).symm
    · cases h1
  | none =>
    symm
    rw [List.findIdx?_eq_none_iff]
    intro a ha
    cases c : PyData.eqv a k with
    | false => rfl
    | true =>
      obtain ⟨i, hi, rfl⟩ := List.mem_iff_getElem.mp ha
      have hi2 : i < es.size := by rw [X.len]; exact hi
      obtain ⟨e, b, h3, h4, h5, _, h6, _⟩ := X.get hi2
      have eb : b = ks[i] := by rw [List.getElem?_eq_getElem hi] at h4; exact (Option.some.inj h4).symm
      subst eb
      have := List.find?_eq_none.mp h i ((places_mem X).mpr ⟨e, _, h3, h4, by rw [h5, eqv_hsh w _ k h6 hk c]⟩)
      rw [h4] at this
      exact absurd c this
theorem calm_all {M : Model} {σ : Type} {x0 : σ} {f : Value → σ → Sem (ForInStep σ)} {Q : σ → Shared → Prop} : ∀ (vs : List Value), (∀ v ∈ vs, ∀ (R : ForInStep σ → Shared → Prop), R (.yield x0) s → wpAny M A (f v x0) R E s) → Q x0 s → wpAny M A (forIn vs x0 f) Q E s
  | [], _, q => by rw [List.forIn_nil]; exact wpAny_pure q
  | v :: vs, h, q => by
    rw [List.forIn_cons]
    exact wpAny_bind (h v (by simp) _ (calm_all vs (fun u hu => h u (List.mem_cons_of_mem _ hu)) q))
theorem may_no {stored : List Value} {R : Bool → Shared → Prop} (rk : Reads s.heap key k as) (hk : hasK k = true) (hkd : k.depth ≤ 8) (hs : ∀ v ∈ stored, ∃ a as, Reads s.heap v a as ∧ hasK a = true ∧ a.depth ≤ 8) (q : R false s) :
    wpAny (model prog w) A (tableMayTell key stored) R E s := by
    unfold tableMayTell
    split
    · exact wpAny_pure q
    · refine wpAny_bind (quiet_data k 8 rk hk hkd ?_)
      simp only [Bool.not_true, Bool.false_eq_true, if_false]
      refine wpAny_bind (calm_all stored (fun v hv R' h => ?_) ?_)
      · obtain ⟨a, as', r, h1, h2⟩ := hs v hv
        refine wpAny_bind (quiet_data a 8 r h1 h2 ?_)
        simp only [Bool.not_true, Bool.false_eq_true, if_false]
        exact wpAny_pure h
      · exact wpAny_pure q
theorem find_pair {α β : Type} {p : α → Bool} {p' : β → Bool} {l : List α} {m : List β} (hl : l.length = m.length) (h : ∀ (i : Nat) (a : α) (b : β), l[i]? = some a → m[i]? = some b → p a = p' b) : l.findIdx? p = m.findIdx? p' := by
  rw [findIdx?_map', findIdx?_map' p' m]
  congr 1
  refine List.ext_getElem? fun i => ?_
  rw [List.getElem?_map, List.getElem?_map]
  cases c : l[i]? with
  | none =>
    have : m[i]? = none := by rw [List.getElem?_eq_none_iff] at c ⊢; omega
    rw [this]; rfl
  | some a =>
    have hi := (List.getElem?_eq_some_iff.mp c).1
    have c2 : m[i]? = some m[i] := List.getElem?_eq_getElem (by omega)
    rw [c2]
    simp only [Option.map_some, h i a _ c c2]
theorem find_data {Q : Option Nat → Shared → Prop} (ho : s.heap.get? d = some o) (hd : o.data = .dict es ep) (X : Ents w s.heap ks es) (rk : Reads s.heap key k as) (hk : hasK k = true) (hkd : k.depth ≤ 8) (hu : A.units + 10 < cLine)
    (q : Q (ks.findIdx? fun z => PyData.eqv z k) s) : wpAny (model prog w) A (dictFind d key (hshK w k)) Q E s := by
  have eq : ∀ (i : Nat) (e : DictEntry) (a : PyData), es[i]? = some e → ks[i]? = some a → SeqAt.EqAt A s e.key key (PyData.eqv a k) := fun i e a h1 h2 => by
    obtain ⟨_, _, r⟩ := X.at_ i e a h1 h2
    obtain ⟨h3, h4⟩ := X.has a (List.mem_of_getElem? h2)
    exact SeqAt.eqAt_plain a k A s e.key key _ _ r rk (hasK_plain a h3) (hasK_plain k hk) (by have := Nat.min_le_left a.depth k.depth; omega)
  have hst : ∀ v ∈ (placesWithHash es.size (fun i => es[i]?.map (·.hash)) (hshK w k)).filterMap (fun i => es[i]?.map (·.key)), ∃ a as, Reads s.heap v a as ∧ hasK a = true ∧ a.depth ≤ 8 := by
    intro v hv
    obtain ⟨i, hi, hv⟩ := List.mem_filterMap.mp hv
    obtain ⟨e, a, h1, h2, _⟩ := (places_mem X).mp hi
    rw [h1] at hv
    cases hv
    obtain ⟨_, as', r⟩ := X.at_ i e a h1 h2
    exact ⟨a, as', r, X.has a (List.mem_of_getElem? h2)⟩
  have pw : (placesWithHash es.size (fun i => es[i]?.map (·.hash)) (hshK w k)).Pairwise fun i j => (match ks[i]? with | some a => PyData.eqv a k | none => false) = true → (match ks[j]? with | some a => PyData.eqv a k | none => false) = false := by
    have nd : (placesWithHash es.size (fun i => es[i]?.map (·.hash)) (hshK w k)).Nodup := List.Nodup.sublist List.filter_sublist List.nodup_range
    refine List.Pairwise.imp (fun {i j} hne h => ?_) nd
    cases c : (match ks[j]? with | some a => PyData.eqv a k | none => false) with
    | false => rfl
    | true =>
      split at h
      · rename_i a ha
        split at c
        · rename_i b hb
          exact absurd (X.same ha hb hk h c) hne
        · cases c
      · cases h
  have pf := places_find (k := k) X hk
  have pm : ∀ i, i ∈ placesWithHash es.size (fun i => es[i]?.map (·.hash)) (hshK w k) → ∃ e a, es[i]? = some e ∧ ks[i]? = some a ∧ (e.hash == hshK w k) = true := fun i hi => by
    obtain ⟨e, a, h1, h2, h3⟩ := (places_mem X).mp hi
    exact ⟨e, a, h1, h2, by rw [h3]; simp⟩
  have any0 : (es.any fun e => e.key == key && e.hash != hshK w k) = false := by
    rw [Bool.eq_false_iff]
    intro c
    obtain ⟨i, hi, c⟩ := Array.any_eq_true.mp c
    obtain ⟨e, a, h1, h2, h3, ⟨as', r⟩, h5, h6⟩ := X.get hi
    rw [Array.getElem?_eq_getElem hi] at h1
    cases h1
    simp only [Bool.and_eq_true, beq_iff_eq, bne_iff_ne, ne_eq] at c
    obtain ⟨c1, c2⟩ := c
    rw [c1] at r
    have := SeqAt.readOf_plain (hasK_plain a h5) r
    have h7 := SeqAt.readOf_plain (hasK_plain k hk) rk
    rw [← this, h7] at h3
    exact c2 h3
  have rk' := rk
  unfold dictFind
  refine wpAny_holding (wpAny_bind (wpAny_dictEntries ho hd ?_))
  generalize hpl : placesWithHash es.size (fun i => es[i]?.map (·.hash)) (hshK w k) = places at *
  cases rk with
  | tuple h1 h2 h3 h4 =>
    dsimp only
    simp only [hpl, List.all_cons, carriedByValue, Bool.false_and, Bool.false_eq_true, if_false]
    rw [any0]
    simp only [Bool.false_eq_true, if_false]
    split
    all_goals first | refine wpAny_bind (wpAny_pure ?_) | refine wpAny_bind (may_no rk' hk hkd hst ?_)
    all_goals
      simp only [Bool.false_and, Bool.and_false, Bool.false_eq_true, if_false]
      refine wpAny_bind (scan_go (few := decide ((places.filterMap fun i => es[i]?.map (·.key)).length < 2)) places (fun i hi hy R hR => ?_) (fun i hi hy st R hR => ?_) pw none (fun h => absurd rfl h) _ fun r hr => ?_)
      · obtain ⟨e, a, g1, g2, g3⟩ := pm i hi
        simp only [g2] at hy
        simp only [g1, g3, if_true]
        refine wpAny_bind (wpAny_dictEpoch ho hd (wpAny_bind (eq i e a g1 g2 prog w E _ (wpAny_bind (wpAny_dictEpoch ho hd ?_)))))
        simp only [bne_self_eq_false, Bool.false_eq_true, if_false, hy, if_true, Option.isSome_none]
        refine wpAny_bind (wpAny_rule ?_)
        split
        · rename_i c; exact wpAny_pure (by simpa only [decide_eq_true c, if_true] using hR)
        · rename_i c; exact wpAny_pure (by simpa only [decide_eq_false c, Bool.false_eq_true, if_false] using hR)
      · obtain ⟨e, a, g1, g2, g3⟩ := pm i hi
        simp only [g2] at hy
        simp only [g1, g3, if_true]
        refine wpAny_bind (wpAny_dictEpoch ho hd (wpAny_bind (eq i e a g1 g2 prog w E _ (wpAny_bind (wpAny_dictEpoch ho hd ?_)))))
        simp only [bne_self_eq_false, Bool.false_eq_true, if_false, hy]
        exact wpAny_bind (wpAny_rule (wpAny_pure hR))
      · obtain ⟨r1, r2⟩ := r
        simp only at hr
        cases r1 with
        | none => simp only at hr ⊢; exact wpAny_pure (by rw [hr, pf]; exact q)
        | some r1 => simp only at hr ⊢; exact wpAny_pure (by rw [hr, pf]; exact q)
  | int i t =>
    dsimp only
    by_cases c : ((Value.int i t :: places.filterMap fun i => es[i]?.map (·.key)).all carriedByValue) = true
    · rw [if_pos c]
      refine wpAny_bind (walk_go (yes := fun j => match ks[j]? with | some a => PyData.eqv a (.int i) | none => false) places (fun i hi hy R hR => ?_) (fun i hi hy R hR => ?_) _ fun r hr => ?_)
      rotate_right 1
      · obtain ⟨r1, r2⟩ := r
        rw [pf] at hr
        cases r1 with
        | none => simp only at hr ⊢; exact wpAny_pure (by rw [hr]; exact q)
        | some r1 => simp only at hr ⊢; exact wpAny_pure (by rw [hr]; exact q)
      · obtain ⟨e, a, g1, g2, g3⟩ := pm i hi
        simp only [g2] at hy
        simp only [g1, g3, if_true]
        refine wpAny_bind (wpAny_dictEpoch ho hd (wpAny_bind (eq i e a g1 g2 prog w E _ (wpAny_bind (wpAny_dictEpoch ho hd ?_)))))
        simp only [bne_self_eq_false, Bool.false_eq_true, if_false, hy, if_true]
        exact wpAny_bind (wpAny_rule (wpAny_pure hR))
      · obtain ⟨e, a, g1, g2, g3⟩ := pm i hi
        simp only [g2] at hy
        simp only [g1, g3, if_true]
        refine wpAny_bind (wpAny_dictEpoch ho hd (wpAny_bind (eq i e a g1 g2 prog w E _ (wpAny_bind (wpAny_dictEpoch ho hd ?_)))))
        simp only [bne_self_eq_false, Bool.false_eq_true, if_false, hy]
        exact wpAny_bind (wpAny_rule (wpAny_pure hR))
    rw [if_neg c]
    by_cases c2 : ((places.filterMap fun i => es[i]?.map (·.key)) == [Value.int i t]) = true
    rw [if_pos c2]
    rotate_left
    rw [if_neg c2]
    all_goals first | refine wpAny_bind (wpAny_pure ?_) | refine wpAny_bind (may_no rk' hk hkd hst ?_)
    all_goals
      simp only [Bool.false_and, Bool.and_false, Bool.false_eq_true, if_false]
      refine wpAny_bind (scan_go (few := decide ((places.filterMap fun i => es[i]?.map (·.key)).length < 2)) places (fun i hi hy R hR => ?_) (fun i hi hy st R hR => ?_) pw none (fun h => absurd rfl h) _ fun r hr => ?_)
      · obtain ⟨e, a, g1, g2, g3⟩ := pm i hi
        simp only [g2] at hy
        simp only [g1, g3, if_true]
        refine wpAny_bind (wpAny_dictEpoch ho hd (wpAny_bind (eq i e a g1 g2 prog w E _ (wpAny_bind (wpAny_dictEpoch ho hd ?_)))))
        simp only [bne_self_eq_false, Bool.false_eq_true, if_false, hy, if_true, Option.isSome_none]
        refine wpAny_bind (wpAny_rule ?_)
        split
        · rename_i c; exact wpAny_pure (by simpa only [decide_eq_true c, if_true] using hR)
        · rename_i c; exact wpAny_pure (by simpa only [decide_eq_false c, Bool.false_eq_true, if_false] using hR)
      · obtain ⟨e, a, g1, g2, g3⟩ := pm i hi
        simp only [g2] at hy
        simp only [g1, g3, if_true]
        refine wpAny_bind (wpAny_dictEpoch ho hd (wpAny_bind (eq i e a g1 g2 prog w E _ (wpAny_bind (wpAny_dictEpoch ho hd ?_)))))
        simp only [bne_self_eq_false, Bool.false_eq_true, if_false, hy]
        exact wpAny_bind (wpAny_rule (wpAny_pure hR))
      · obtain ⟨r1, r2⟩ := r
        simp only at hr
        cases r1 with
        | none => simp only at hr ⊢; exact wpAny_pure (by rw [hr, pf]; exact q)
        | some r1 => simp only at hr ⊢; exact wpAny_pure (by rw [hr, pf]; exact q)
  | bool b =>
    dsimp only
    by_cases c : ((Value.bool b :: places.filterMap fun i => es[i]?.map (·.key)).all carriedByValue) = true
    · rw [if_pos c]
      refine wpAny_bind (walk_go (yes := fun j => match ks[j]? with | some a => PyData.eqv a (.bool b) | none => false) places (fun i hi hy R hR => ?_) (fun i hi hy R hR => ?_) _ fun r hr => ?_)
      rotate_right 1
      · obtain ⟨r1, r2⟩ := r
        rw [pf] at hr
        cases r1 with
        | none => simp only at hr ⊢; exact wpAny_pure (by rw [hr]; exact q)
        | some r1 => simp only at hr ⊢; exact wpAny_pure (by rw [hr]; exact q)
      · obtain ⟨e, a, g1, g2, g3⟩ := pm i hi
        simp only [g2] at hy
        simp only [g1, g3, if_true]
        refine wpAny_bind (wpAny_dictEpoch ho hd (wpAny_bind (eq i e a g1 g2 prog w E _ (wpAny_bind (wpAny_dictEpoch ho hd ?_)))))
        simp only [bne_self_eq_false, Bool.false_eq_true, if_false, hy, if_true]
        exact wpAny_bind (wpAny_rule (wpAny_pure hR))
      · obtain ⟨e, a, g1, g2, g3⟩ := pm i hi
        simp only [g2] at hy
        simp only [g1, g3, if_true]
        refine wpAny_bind (wpAny_dictEpoch ho hd (wpAny_bind (eq i e a g1 g2 prog w E _ (wpAny_bind (wpAny_dictEpoch ho hd ?_)))))
        simp only [bne_self_eq_false, Bool.false_eq_true, if_false, hy]
        exact wpAny_bind (wpAny_rule (wpAny_pure hR))
    rw [if_neg c]
    by_cases c2 : ((places.filterMap fun i => es[i]?.map (·.key)) == [Value.bool b]) = true
    rw [if_pos c2]
    rotate_left
    rw [if_neg c2]
    all_goals first | refine wpAny_bind (wpAny_pure ?_) | refine wpAny_bind (may_no rk' hk hkd hst ?_)
    all_goals
      simp only [Bool.false_and, Bool.and_false, Bool.false_eq_true, if_false]
      refine wpAny_bind (scan_go (few := decide ((places.filterMap fun i => es[i]?.map (·.key)).length < 2)) places (fun i hi hy R hR => ?_) (fun i hi hy st R hR => ?_) pw none (fun h => absurd rfl h) _ fun r hr => ?_)
      · obtain ⟨e, a, g1, g2, g3⟩ := pm i hi
        simp only [g2] at hy
        simp only [g1, g3, if_true]
        refine wpAny_bind (wpAny_dictEpoch ho hd (wpAny_bind (eq i e a g1 g2 prog w E _ (wpAny_bind (wpAny_dictEpoch ho hd ?_)))))
        simp only [bne_self_eq_false, Bool.false_eq_true, if_false, hy, if_true, Option.isSome_none]
        refine wpAny_bind (wpAny_rule ?_)
        split
        · rename_i c; exact wpAny_pure (by simpa only [decide_eq_true c, if_true] using hR)
        · rename_i c; exact wpAny_pure (by simpa only [decide_eq_false c, Bool.false_eq_true, if_false] using hR)
      · obtain ⟨e, a, g1, g2, g3⟩ := pm i hi
        simp only [g2] at hy
        simp only [g1, g3, if_true]
        refine wpAny_bind (wpAny_dictEpoch ho hd (wpAny_bind (eq i e a g1 g2 prog w E _ (wpAny_bind (wpAny_dictEpoch ho hd ?_)))))
        simp only [bne_self_eq_false, Bool.false_eq_true, if_false, hy]
        exact wpAny_bind (wpAny_rule (wpAny_pure hR))
      · obtain ⟨r1, r2⟩ := r
        simp only at hr
        cases r1 with
        | none => simp only at hr ⊢; exact wpAny_pure (by rw [hr, pf]; exact q)
        | some r1 => simp only at hr ⊢; exact wpAny_pure (by rw [hr, pf]; exact q)
  | str x t =>
    dsimp only
    by_cases c0 : (es.all fun e => isExactStrKey e.key) = true
    · rw [if_pos c0]
      have fe : es.findIdx? (fun e => e.key.isStr x) = ks.findIdx? fun z => PyData.eqv z (.str x) := by
        rw [show es.findIdx? (fun e => e.key.isStr x) = es.toList.findIdx? (fun e => e.key.isStr x) by obtain ⟨l⟩ := es; simp [List.findIdx?_toArray]]
        refine find_pair (by rw [Array.length_toList]; exact X.len) fun i e a h1 h2 => ?_
        have h1' : es[i]? = some e := by rw [← Array.getElem?_toList]; exact h1
        obtain ⟨_, as', r⟩ := X.at_ i e a h1' h2
        have c1 := Array.all_eq_true.mp c0 i (Array.getElem?_eq_some_iff.mp h1').1
        rw [(Array.getElem?_eq_some_iff.mp h1').2] at c1
        generalize e.key = kv at r c1
        cases kv with
        | str y u => cases r; rfl
        | _ => simp [isExactStrKey] at c1
      unfold foundByValue
      rw [fe]
      cases c3 : ks.findIdx? fun z => PyData.eqv z (.str x) with
      | none => rw [c3] at q; exact wpAny_pure q
      | some i =>
        rw [c3] at q
        have h9 := List.findIdx?_eq_some_iff_getElem.mp c3
        obtain ⟨hl, ht, _⟩ := h9
        obtain ⟨e, a, g1, g2, _⟩ := X.get (by rw [X.len]; exact hl)
        have ha : a = ks[i] := by rw [List.getElem?_eq_getElem hl] at g2; exact (Option.some.inj g2).symm
        subst ha
        simp only [g1]
        have e1 := eq i e _ g1 g2
        rw [ht] at e1
        refine wpAny_bind (wpAny_dictEpoch ho hd (wpAny_bind (e1 prog w E _ (wpAny_bind (wpAny_dictEpoch ho hd ?_)))))
        simp only [bne_self_eq_false, Bool.false_eq_true, if_false, if_true]
        exact wpAny_bind (wpAny_rule (wpAny_pure q))
    rw [if_neg c0]
    by_cases c : ((Value.str x t :: places.filterMap fun i => es[i]?.map (·.key)).all carriedByValue) = true
    · rw [if_pos c]
      refine wpAny_bind (walk_go (yes := fun j => match ks[j]? with | some a => PyData.eqv a (.str x) | none => false) places (fun i hi hy R hR => ?_) (fun i hi hy R hR => ?_) _ fun r hr => ?_)
      rotate_right 1
      · obtain ⟨r1, r2⟩ := r
        rw [pf] at hr
        cases r1 with
        | none => simp only at hr ⊢; exact wpAny_pure (by rw [hr]; exact q)
        | some r1 => simp only at hr ⊢; exact wpAny_pure (by rw [hr]; exact q)
      · obtain ⟨e, a, g1, g2, g3⟩ := pm i hi
        simp only [g2] at hy
        simp only [g1, g3, if_true]
        refine wpAny_bind (wpAny_dictEpoch ho hd (wpAny_bind (eq i e a g1 g2 prog w E _ (wpAny_bind (wpAny_dictEpoch ho hd ?_)))))
        simp only [bne_self_eq_false, Bool.false_eq_true, if_false, hy, if_true]
        exact wpAny_bind (wpAny_rule (wpAny_pure hR))
      · obtain ⟨e, a, g1, g2, g3⟩ := pm i hi
        simp only [g2] at hy
        simp only [g1, g3, if_true]
        refine wpAny_bind (wpAny_dictEpoch ho hd (wpAny_bind (eq i e a g1 g2 prog w E _ (wpAny_bind (wpAny_dictEpoch ho hd ?_)))))
        simp only [bne_self_eq_false, Bool.false_eq_true, if_false, hy]
        exact wpAny_bind (wpAny_rule (wpAny_pure hR))
    rw [if_neg c]
    by_cases c2 : ((places.filterMap fun i => es[i]?.map (·.key)) == [Value.str x t]) = true
    rw [if_pos c2]
    rotate_left
    rw [if_neg c2]
    all_goals first | refine wpAny_bind (wpAny_pure ?_) | refine wpAny_bind (may_no rk' hk hkd hst ?_)
    all_goals
      simp only [Bool.false_and, Bool.and_false, Bool.false_eq_true, if_false]
      refine wpAny_bind (scan_go (few := decide ((places.filterMap fun i => es[i]?.map (·.key)).length < 2)) places (fun i hi hy R hR => ?_) (fun i hi hy st R hR => ?_) pw none (fun h => absurd rfl h) _ fun r hr => ?_)
      · obtain ⟨e, a, g1, g2, g3⟩ := pm i hi
        simp only [g2] at hy
        simp only [g1, g3, if_true]
        refine wpAny_bind (wpAny_dictEpoch ho hd (wpAny_bind (eq i e a g1 g2 prog w E _ (wpAny_bind (wpAny_dictEpoch ho hd ?_)))))
        simp only [bne_self_eq_false, Bool.false_eq_true, if_false, hy, if_true, Option.isSome_none]
        refine wpAny_bind (wpAny_rule ?_)
        split
        · rename_i c; exact wpAny_pure (by simpa only [decide_eq_true c, if_true] using hR)
        · rename_i c; exact wpAny_pure (by simpa only [decide_eq_false c, Bool.false_eq_true, if_false] using hR)
      · obtain ⟨e, a, g1, g2, g3⟩ := pm i hi
        simp only [g2] at hy
        simp only [g1, g3, if_true]
        refine wpAny_bind (wpAny_dictEpoch ho hd (wpAny_bind (eq i e a g1 g2 prog w E _ (wpAny_bind (wpAny_dictEpoch ho hd ?_)))))
        simp only [bne_self_eq_false, Bool.false_eq_true, if_false, hy]
        exact wpAny_bind (wpAny_rule (wpAny_pure hR))
      · obtain ⟨r1, r2⟩ := r
        simp only at hr
        cases r1 with
        | none => simp only at hr ⊢; exact wpAny_pure (by rw [hr, pf]; exact q)
        | some r1 => simp only at hr ⊢; exact wpAny_pure (by rw [hr, pf]; exact q)
  | none => simp [hasK] at hk
  | list => simp [hasK] at hk
  | dict => simp [hasK] at hk
end
end DL

set_option Elab.async false
set_option linter.all false
set_option maxRecDepth 100000
set_option maxHeartbeats 4000000
set_option autoImplicit false
namespace DL
open PySem PySem.Spec PyProof.Rows L2
/-! ### parts of such data -/
theorem readsAll_mem {h : Heap} : ∀ {vs : List Value} {xs : List PyData} {as : List Addr} {v : Value}, ReadsAll h vs xs as → v ∈ vs → ∃ x ∈ xs, ∃ as', Reads h v x as'
  | _, _, _, v, .nil, hv => by cases hv
  | _, _, _, v, .cons r1 r2, hv => by
    rcases List.mem_cons.mp hv with rfl | hv
    · exact ⟨_, List.mem_cons_self, _, r1⟩
    · obtain ⟨x, hx, r⟩ := readsAll_mem r2 hv
      exact ⟨x, List.mem_cons_of_mem _ hx, r⟩
theorem hasKs_mem : ∀ {xs : List PyData} {x : PyData}, hasKs xs = true → x ∈ xs → hasK x = true
  | y :: ys, x, h, hx => by
    simp only [hasKs, Bool.and_eq_true] at h
    rcases List.mem_cons.mp hx with rfl | hx
    · exact h.1
    · exact hasKs_mem h.2 hx
theorem depth_mem : ∀ {xs : List PyData} {x : PyData} {n : Nat}, PyData.depthAll xs ≤ n → x ∈ xs → x.depth ≤ n
  | y :: ys, x, n, h, hx => by
    simp only [PyData.depthAll] at h
    rcases List.mem_cons.mp hx with rfl | hx
    · omega
    · exact depth_mem (by omega) hx
section
variable {prog : Program} {w : World}
/-- going through values, each of which may end it -/
theorem loop_two {M : Model} {A : Around} {E : Value → Shared → Prop} {s : Shared} {σ : Type} {x0 x1 : σ} {f : Value → σ → Sem (ForInStep σ)} {Q : σ → Shared → Prop} (q0 : Q x0 s) (q1 : Q x1 s) :
    ∀ (vs : List Value), (∀ v ∈ vs, ∀ (R : ForInStep σ → Shared → Prop), R (.yield x0) s → R (.done x1) s → wpAny M A (f v x0) R E s) → wpAny M A (forIn vs x0 f) Q E s
  | [], _ => by rw [List.forIn_nil]; exact wpAny_pure q0
  | v :: vs, h => by
    rw [List.forIn_cons]
    exact wpAny_bind (h v List.mem_cons_self _ (loop_two q0 q1 vs fun u hu => h u (List.mem_cons_of_mem _ hu)) (wpAny_pure q1))
/-- such data are of no class statement -/
theorem noclass_data : ∀ (n : Nat) (d : PyData) {A : Around} {E : Value → Shared → Prop} {s : Shared} {v : Value} {as : List Addr} {Q : Bool → Shared → Prop}, Reads s.heap v d as → hasK d = true → d.depth ≤ n → Q false s → wpAny (model prog w) A (ofAClassStatement n v) Q E s := by
  intro n
  induction n with
  | zero =>
    intro d A E s v as Q r hk hn q
    cases r with
    | tuple h1 h2 h3 h4 => simp [PyData.depth] at hn
    | list h1 h2 h3 h4 => simp [hasK] at hk
    | dict h1 => simp [hasK] at hk
    | _ => exact wpAny_pure q
  | succ n ih =>
    intro d A E s v as Q r hk hn q
    cases r with
    | tuple h1 h2 h3 h4 =>
      rename_i a o vs xs m
      simp only [hasK] at hk
      simp only [PyData.depth] at hn
      unfold ofAClassStatement
      refine wpAny_bind (wpAny_typeOf (T := "tuple") ⟨o, h1, h2⟩ ?_)
      have e : (("tuple" : String) == "tuple") = true := by decide
      simp only [e, if_true]
      refine wpAny_bind (wpAny_pure ?_)
      simp only [Bool.not_true, Bool.false_eq_true, if_false]
      refine wpAny_bind (wpAny_seqItems h1 h3 ?_)
      dsimp only
      refine wpAny_bind ?_
      rw [← Array.forIn_toList]
      refine calm_all vs.toList (fun v hv R hR => ?_) (wpAny_pure q)
      obtain ⟨x, hx, as', r⟩ := readsAll_mem h4 hv
      refine wpAny_bind (ih x r (hasKs_mem hk hx) (depth_mem (by omega) hx) ?_)
      exact wpAny_pure hR
    | list h1 h2 h3 h4 => simp [hasK] at hk
    | dict h1 => simp [hasK] at hk
    | _ => exact wpAny_pure q
/-- whether their hashes go by values is told quietly -/
theorem byval_data : ∀ (n : Nat) (d : PyData) {A : Around} {E : Value → Shared → Prop} {s : Shared} {v : Value} {as : List Addr} {Q : Bool → Shared → Prop}, Reads s.heap v d as → hasK d = true → (∀ b, Q b s) → wpAny (model prog w) A (hashByValue n v) Q E s := by
  intro n
  induction n with
  | zero =>
    intro d A E s v as Q r hk q
    cases r with
    | list h1 h2 h3 h4 => simp [hasK] at hk
    | dict h1 => simp [hasK] at hk
    | _ => exact wpAny_pure (q _)
  | succ n ih =>
    intro d A E s v as Q r hk q
    cases r with
    | tuple h1 h2 h3 h4 =>
      rename_i a o vs xs m
      simp only [hasK] at hk
      unfold hashByValue
      refine wpAny_bind (wpAny_specialOf (T := "tuple") ⟨o, h1, h2⟩ F.slot_tuple_hash.lookup ?_)
      show wpAny _ _ (seqItems? (.ref a) >>= _) _ _ s
      refine wpAny_bind (wpAny_seqItems h1 h3 (wpAny_bind ?_))
      show wpAny _ _ (forIn vs _ _) _ _ s
      rw [← Array.forIn_toList]
      refine loop_two (x1 := (some false, ())) (wpAny_pure (q _)) (wpAny_pure (q _)) vs.toList fun v hv R h0 h1 => ?_
      obtain ⟨x, hx, as', r⟩ := readsAll_mem h4 hv
      refine wpAny_bind (ih x r (hasKs_mem hk hx) fun b => ?_)
      cases b
      · exact wpAny_pure h1
      · exact wpAny_pure h0
    | list h1 h2 h3 h4 => simp [hasK] at hk
    | dict h1 => simp [hasK] at hk
    | _ => exact wpAny_pure (q _)
/-- a key as it stands in a heap -/
structure El (h : Heap) (p : Addr × PyData) : Prop where
  rd : ∃ as, Reads h (.ref p.1) p.2 as
  has : hasK p.2 = true
  dp : p.2.depth ≤ 8
section
variable {A : Around} {E : Value → Shared → Prop} {s : Shared}
theorem El.eq {p q : Addr × PyData} (hp : El s.heap p) (hq : El s.heap q) (hu : A.units + 10 < cLine) {Q : Bool → Shared → Prop} (h : Q (PyData.eqv p.2 q.2) s) : wpAny (model prog w) A (eqBool (.ref p.1) (.ref q.1)) Q E s := by
  obtain ⟨as, r1⟩ := hp.rd
  obtain ⟨bs, r2⟩ := hq.rd
  exact SeqAt.eqAt_plain p.2 q.2 A s _ _ _ _ r1 r2 (hasK_plain _ hp.has) (hasK_plain _ hq.has) (by have := Nat.min_le_left p.2.depth q.2.depth; have := hp.dp; omega) _ _ _ _ h
theorem El.seen {p : Addr × PyData} (hp : El s.heap p) {ys : List Value} (hy : ∀ y ∈ ys, ∃ q, y = Value.ref q.1 ∧ El s.heap q) {Q : Bool → Shared → Prop} (h : Q false s) : wpAny (model prog w) A (searchCouldBeSeen (.ref p.1) ys) Q E s := by
  obtain ⟨as, r1⟩ := hp.rd
  unfold searchCouldBeSeen
  refine wpAny_bind (calm_all ys (fun y hv R hR => ?_) (wpAny_pure h))
  obtain ⟨q, rfl, hq⟩ := hy y hv
  obtain ⟨bs, r2⟩ := hq.rd
  dsimp only
  split
  · exact wpAny_pure hR
  · refine wpAny_bind (quiet_data p.2 8 r1 hp.has hp.dp ?_)
    refine wpAny_bind (quiet_data q.2 8 r2 hq.has hq.dp ?_)
    refine wpAny_bind (noclass_data 8 p.2 r1 hp.has hp.dp ?_)
    refine wpAny_bind (noclass_data 8 q.2 r2 hq.has hq.dp ?_)
    exact wpAny_pure hR
end
end
/-! ### the table -/
/-- the c-th stand on a hash's way -/
abbrev stand (t : SetTable) (h : Int) (c : Nat) : SetTable.Probe := nth t.mask (t.probeStart h) c
theorem stand_bare (t : SetTable) (h : Int) : ∀ c, (stand t h c).dummy = none
  | 0 => rfl
  | c + 1 => by
    have ih := stand_bare t h c
    show (nth t.mask (t.probeStart h) (c + 1)).dummy = none
    rw [nth_succ]
    unfold adv
    split <;> exact ih
/-- what a look from the c-th stand on tells -/
theorem look_from {t : SetTable} {hs : List Int} (T : TabOk t hs) {at_ : Nat → Int} (hat : ∀ i, i < hs.length → hs[i]? = some (at_ i)) {h : Int} {c K : Nat} (hc : c ≤ K) (hf : K < 10 * SetTable.turns t.mask) (hK : way t.mask h K ∉ t.place.toList)
    (hb : ∀ k, k < K → way t.mask h k ∈ t.place.toList) :
    (∃ n i : Nat, c ≤ n ∧ n < K ∧ t.place.toList[i]? = some (way t.mask h n) ∧ hs[i]? = some h ∧ (∀ m j : Nat, c ≤ m → m < n → t.place.toList[j]? = some (way t.mask h m) → hs[j]? ≠ some h) ∧ t.probe at_ h (stand t h c) = some (.candidate (way t.mask h n) i (stand t h (n + 1)))) ∨
    ((∀ m j : Nat, c ≤ m → m < K → t.place.toList[j]? = some (way t.mask h m) → hs[j]? ≠ some h) ∧ t.probe at_ h (stand t h c) = some (.empty (way t.mask h K) none)) := by
  have sh : ∀ q, nth t.mask (stand t h c) q = stand t h (c + q) := fun q => (nth_add t.mask c _ q).symm
  have wy : ∀ q, (stand t h q).j = way t.mask h q := fun q => rfl
  have inh : ∀ {i j : Nat}, t.place.toList[i]? = some j → hs[i]? = some (at_ i) := fun {i j} e => hat i (by
    have h1 := (List.getElem?_eq_some_iff.mp e).1
    rw [Array.length_toList, T.sz] at h1
    exact h1)
  rcases go_spec t T.ris T.dm at_ h (10 * SetTable.turns t.mask) (K - c) (stand t h c) (stand_bare t h c) (by omega) (fun q hq => by rw [sh, wy]; exact hb _ (by omega)) (by rw [sh, wy, show c + (K - c) = K by omega]; exact hK) with ⟨q, i, h1, h2, h3, h4, h5⟩ | ⟨h1, h2⟩
  · rw [sh, wy] at h2
    refine .inl ⟨c + q, i, by omega, by omega, h2, by rw [inh h2, h3], fun m j a b e z => ?_, ?_⟩
    · refine h4 (m - c) j (by omega) (by rw [sh, wy, show c + (m - c) = m by omega]; exact e) ?_
      rw [inh e] at z
      exact Option.some.inj z
    · rw [sh, sh, wy] at h5
      exact h5
  · refine .inr ⟨fun m j a b e z => ?_, ?_⟩
    · refine h1 (m - c) j (by omega) (by rw [sh, wy, show c + (m - c) = m by omega]; exact e) ?_
      rw [inh e] at z
      exact Option.some.inj z
    · rw [sh, wy, show c + (K - c) = K by omega] at h2
      exact h2
end DL

set_option Elab.async false
set_option linter.all false
set_option maxRecDepth 100000
set_option maxHeartbeats 4000000
set_option autoImplicit false
namespace DL
open PySem PySem.Spec PyProof.Rows L2
/-! ### sets of such data -/
abbrev El.row (w : World) (p : Addr × PyData) : Int × Value := (hshK w p.2, .ref p.1)
structure SetN (w : World) (h : Heap) (a : Addr) (L : List (Addr × PyData)) (es : Array (Int × Value)) (ep : Nat) (t : SetTable) : Prop where
  ob : ∃ o, h.get? a = some o ∧ o.ExactSet ∧ o.data = .set es ep t
  rows : es.toList = L.map (El.row w)
  tab : TabOk t (L.map fun p => hshK w p.2)
  els : ∀ p ∈ L, El h p
  room : L.length * 5 < t.mask * 3
  few : L.length < 64
abbrev inK (L : List (Addr × PyData)) (k : PyData) : Bool := L.any fun p => PyData.eqv p.2 k
section
variable {prog : Program} {w : World} {A : Around} {E : Value → Shared → Prop} {s : Shared} {a : Addr} {L : List (Addr × PyData)} {es : Array (Int × Value)} {ep : Nat} {t : SetTable} {x : Addr × PyData}
theorem SetN.size (R : SetN w s.heap a L es ep t) : es.size = L.length := by
  rw [← Array.length_toList, R.rows, List.length_map]
theorem fits_few (h1 : t.dummies = #[]) (h2 : t.place.size = es.size) (h3 : es.size ≤ t.mask) : t.fits es.size = true := by
  unfold SetTable.fits SetTable.fill
  rw [h1, h2]
  simpa using h3
theorem SetN.fits (R : SetN w s.heap a L es ep t) : t.fits es.size = true := by
  have h1 := R.tab.sz
  rw [List.length_map, ← R.size] at h1
  have := R.room
  have := R.size
  exact fits_few R.tab.dm h1 (by omega)
theorem SetN.row (R : SetN w s.heap a L es ep t) (i : Nat) : es[i]? = L[i]?.map (El.row w) := by
  rw [← Array.getElem?_toList, R.rows, List.getElem?_map]
/-- the search, from a stand on behind which all that are like it are -/
theorem SetN.seek (R : SetN w s.heap a L es ep t) (hx : El s.heap x) (hu : A.units + 10 < cLine) {K : Nat} (hf : K < 10 * SetTable.turns t.mask) (hK : way t.mask (hshK w x.2) K ∉ t.place.toList) (hb : ∀ k, k < K → way t.mask (hshK w x.2) k ∈ t.place.toList)
    {Q : SetFound → Shared → Prop} (yes : inK L x.2 = true → Q (.there none) s) (no : inK L x.2 = false → Q (.free (way t.mask (hshK w x.2) K) false) s) :
    ∀ (n c : Nat) (from_ : Option SetTable.Probe), from_.getD (t.probeStart (hshK w x.2)) = stand t (hshK w x.2) c → c ≤ K → K < c + n →
      (∀ (i m : Nat) (p : Addr × PyData), L[i]? = some p → PyData.eqv p.2 x.2 = true → t.place.toList[i]? = some (way t.mask (hshK w x.2) m) → m < K → ∃ m', way t.mask (hshK w x.2) m' = way t.mask (hshK w x.2) m ∧ c ≤ m' ∧ m' < K) →
      wpAny (model prog w) A (setSearchFrom a (.ref x.1) (hshK w x.2) true n from_) Q E s := by
  obtain ⟨o, ho, hex, hd⟩ := R.ob
  have gw : t.gaveWay = false := by unfold SetTable.gaveWay; rw [mask_odd R.tab.mok]; rfl
  have hat : ∀ i, i < (L.map fun p => hshK w p.2).length → (L.map fun p => hshK w p.2)[i]? = some ((fun i => (es[i]?.map (·.1)).getD 0) i) := fun i hi => by
    rw [List.length_map] at hi
    simp only [List.getElem?_map, R.row i, List.getElem?_eq_getElem hi, Option.map_some, Option.getD_some]
  have lists : ∀ {i j : Nat}, t.place.toList[i]? = some j → i < L.length := fun {i j} e => by
    have := (List.getElem?_eq_some_iff.mp e).1
    rw [Array.length_toList, R.tab.sz, List.length_map] at this
    exact this
  intro n
  induction n with
  | zero => intro c _ _ h1 h2 _; omega
  | succ n ih =>
    intro c from_ hfr hc hn hre
    rw [setSearchFrom_succ]
    refine wpAny_bind (wpAny_setState_of ho hd R.fits ?_)
    simp only [gw, Bool.false_eq_true, if_false, hfr]
    rcases look_from R.tab hat hc hf hK hb with ⟨m, i, h1, h2, h3, h4, h5, h6⟩ | ⟨h1, h2⟩
    · have hi := lists h3
      have hp : L[i]? = some L[i] := List.getElem?_eq_getElem hi
      have hel := R.els L[i] (List.getElem_mem hi)
      have he : es[i]? = some (El.row w L[i]) := by rw [R.row, hp]; rfl
      have tail : wpAny (model prog w) A (searchRest a (.ref x.1) (hshK w x.2) true n es t (way t.mask (hshK w x.2) m) i (stand t (hshK w x.2) (m + 1))) Q E s := by
        unfold searchRest
        simp only [he]
        refine wpAny_bind (wpAny_holding (hel.eq hx hu ?_))
        refine wpAny_bind (wpAny_setState_of ho hd R.fits ?_)
        cases c1 : PyData.eqv L[i].2 x.2 with
        | true =>
          simp only [Bool.and_true, if_true]
          exact wpAny_pure (yes (List.any_eq_true.mpr ⟨_, List.getElem_mem hi, c1⟩))
        | false =>
          have sl : t.slot (way t.mask (hshK w x.2) m) = .live i := slot_live R.tab.ris h3
          simp only [Bool.and_false, Bool.false_eq_true, if_false, sameMem, if_true, sl, he]
          refine wpAny_bind (wpAny_isSame_ref_self (wpAny_bind (wpAny_pure ?_)))
          simp only [if_true]
          refine ih (m + 1) _ rfl (by omega) (by omega) fun i0 m0 p0 e1 e2 e3 e4 => ?_
          obtain ⟨m1, w1, w2, w3⟩ := hre i0 m0 p0 e1 e2 e3 e4
          refine ⟨m1, w1, ?_, w3⟩
          have hh : hshK w p0.2 = hshK w x.2 := eqv_hsh w _ _ (R.els p0 (List.mem_of_getElem? e1)).has hx.has e2
          have hl : (L.map fun p => hshK w p.2)[i0]? = some (hshK w x.2) := by rw [List.getElem?_map, e1, ← hh]; rfl
          rcases Nat.lt_trichotomy m1 m with z | z | z
          · exact absurd hl (h5 m1 i0 w2 z (by rw [w1]; exact e3))
          · subst z
            rw [← w1] at e3
            have s2 := slot_live R.tab.ris e3
            rw [sl] at s2
            injection s2 with s2
            subst s2
            rw [hp] at e1
            cases e1
            rw [c1] at e2
            cases e2
          · omega
      rw [h6]
      dsimp only
      cases hl : t.led with
      | true => exact tail
      | false =>
        simp only [Bool.not_false, if_true]
        refine wpAny_bind (hx.seen (fun y hy => ?_) ?_)
        · obtain ⟨e, he1, rfl⟩ := List.mem_map.mp hy
          have he2 : e ∈ es.toList := by
            have := (Array.mem_toList_iff.mp he1)
            rw [Array.mem_filter] at this
            exact Array.mem_toList_iff.mpr this.1
          rw [R.rows] at he2
          obtain ⟨q, hq, rfl⟩ := List.mem_map.mp he2
          exact ⟨q, rfl, R.els q hq⟩
        · exact tail
    · rw [h2]
      refine wpAny_pure (no ?_)
      rw [Bool.eq_false_iff]
      intro z
      obtain ⟨p, hp, e⟩ := List.any_eq_true.mp z
      obtain ⟨i, hi, rfl⟩ := List.getElem_of_mem hp
      have hp0 : L[i]? = some L[i] := List.getElem?_eq_getElem hi
      have hh : hshK w L[i].2 = hshK w x.2 := eqv_hsh w _ _ (R.els _ hp).has hx.has e
      have hl : (L.map fun p => hshK w p.2)[i]? = some (hshK w x.2) := by rw [List.getElem?_map, hp0, ← hh]; rfl
      have hpl : i < t.place.toList.length := by rw [Array.length_toList, R.tab.sz, List.length_map]; exact hi
      have hj := List.getElem?_eq_getElem hpl
      obtain ⟨m, hm, w0⟩ := R.tab.before hK hl hj
      rw [← w0] at hj
      obtain ⟨m', w1, w2, w3⟩ := hre i m _ hp0 e hj hm
      exact h1 m' i w2 w3 (by rw [w1]; exact hj) hl
/-- the search as adding asks for it -/
theorem SetN.search (R : SetN w s.heap a L es ep t) (hx : El s.heap x) (hu : A.units + 10 < cLine) {Q : SetFound → Shared → Prop} (yes : inK L x.2 = true → Q (.there none) s)
    (no : ∀ K, inK L x.2 = false → way t.mask (hshK w x.2) K ∉ t.place.toList → (∀ c, c < K → way t.mask (hshK w x.2) c ∈ t.place.toList) → Q (.free (way t.mask (hshK w x.2) K) false) s) :
    wpAny (model prog w) A (setSearch a (.ref x.1) (hshK w x.2) true) Q E s := by
  have := R.room
  obtain ⟨K, hf, hK, hb⟩ := R.tab.first (by rw [List.length_map]; omega) (hshK w x.2)
  have big : K < 100000 := by
    have := R.tab.mok
    unfold SetTable.turns at hf
    rcases this with e | e | e <;> rw [e] at hf <;> omega
  exact R.seek hx hu hf hK hb yes (fun z => no K z hK hb) 100000 0 none rfl (Nat.zero_le _) (by omega) fun i m p _ _ _ hm => ⟨m, rfl, Nat.zero_le _, hm⟩
end
end DL

set_option Elab.async false
set_option linter.all false
set_option maxRecDepth 100000
set_option maxHeartbeats 4000000
set_option autoImplicit false
namespace DL
open PySem PySem.Spec PyProof.Rows L2
/-! ### what reads does so where all but a set stays -/
section
variable {h h' : Heap} {a : Addr}
mutual
theorem reads_but (na : ∀ o vs n, h.get? a = some o → o.data ≠ .seq vs n) (sb : Heap.SameBut a h h') : ∀ (d : PyData) {v : Value} {as : List Addr}, hasK d = true → Reads h v d as → Reads h' v d as
  | .tuple xs, v, as, hk, r => by
    cases r with
    | tuple h1 h2 h3 h4 =>
      simp only [hasK] at hk
      refine .tuple ((sb.2 _ fun z => ?_).trans h1) h2 h3 (readsAll_but na sb xs hk h4)
      subst z
      exact na _ _ _ h1 h3
  | .int i, v, as, _, r => by cases r; constructor
  | .str x, v, as, _, r => by cases r; constructor
  | .bool b, v, as, _, r => by cases r; constructor
  | .none, v, as, hk, _ => by simp [hasK] at hk
  | .list _, v, as, hk, _ => by simp [hasK] at hk
  | .dict _, v, as, hk, _ => by simp [hasK] at hk
theorem readsAll_but (na : ∀ o vs n, h.get? a = some o → o.data ≠ .seq vs n) (sb : Heap.SameBut a h h') : ∀ (ds : List PyData) {vs : List Value} {as : List Addr}, hasKs ds = true → ReadsAll h vs ds as → ReadsAll h' vs ds as
  | [], _, _, _, r => by cases r; constructor
  | d :: ds, _, _, hk, r => by
    cases r with
    | cons r1 r2 =>
      simp only [hasKs, Bool.and_eq_true] at hk
      exact .cons (reads_but na sb d hk.1 r1) (readsAll_but na sb ds hk.2 r2)
end
end
/-- a list by an order of its places -/
theorem by_order {α β : Type} (f : α → β) (L : List α) (es : Array β) (hr : es.toList = L.map f) (order : Array Nat) (hp : order.toList.Perm (List.range L.length)) :
    ∃ L' : List α, (order.filterMap (es[·]?)).toList = L'.map f ∧ L'.Perm L ∧ ∀ (g : β → Int) (z : Int), L'.map (fun p => g (f p)) = order.toList.map fun i => (es.map g).getD i z := by
  have at_ : ∀ i : Nat, es[i]? = L[i]?.map f := fun i => by rw [← Array.getElem?_toList, hr, List.getElem?_map]
  have lt : ∀ i ∈ order.toList, i < L.length := fun i hi => List.mem_range.mp (hp.mem_iff.mp hi)
  have e : ∀ M : List α, (List.range M.length).filterMap (fun i => M[i]?) = M := fun M => by
    have h1 : ∀ i ∈ List.range M.length, M[i]? = (fun i => M[i]?) i := fun _ _ => rfl
    refine List.ext_getElem? fun i => ?_
    have : ∀ l : List Nat, (∀ j ∈ l, j < M.length) → ∀ i : Nat, (l.filterMap fun j => M[j]?)[i]? = l[i]?.bind fun j => M[j]? := by
      intro l
      induction l with
      | nil => intro _ i; simp
      | cons j l ih =>
        intro hl i
        have hj := List.getElem?_eq_getElem (hl j List.mem_cons_self)
        rw [List.filterMap_cons_some hj]
        cases i with
        | zero => simp only [List.getElem?_cons_zero, Option.bind_some, hj]
        | succ i => simp only [List.getElem?_cons_succ]; exact ih (fun q hq => hl q (List.mem_cons_of_mem _ hq)) i
    rw [this _ (fun j hj => List.mem_range.mp hj)]
    rcases Nat.lt_or_ge i M.length with c | c
    · rw [List.getElem?_range c]; rfl
    · rw [List.getElem?_eq_none (by simpa using c), List.getElem?_eq_none c]; rfl
  refine ⟨order.toList.filterMap fun i => L[i]?, ?_, ?_, fun g z => ?_⟩
  · rw [Array.toList_filterMap, List.map_filterMap]
    exact congrArg (fun q => order.toList.filterMap q) (funext at_)
  · have := hp.filterMap fun i => L[i]?
    rw [e L] at this
    exact this
  · revert lt
    generalize order.toList = l
    intro lt
    induction l with
    | nil => rfl
    | cons i l ih =>
      have hi := List.getElem?_eq_getElem (lt i List.mem_cons_self)
      rw [List.filterMap_cons_some hi, List.map_cons, List.map_cons, ih fun j hj => lt j (List.mem_cons_of_mem _ hj)]
      congr 1
      rw [Array.getD_eq_getD_getElem?, Array.getElem?_map, at_, hi]
      rfl
section
variable {prog : Program} {w : World} {A : Around} {E : Value → Shared → Prop} {s : Shared} {a : Addr} {L : List (Addr × PyData)} {es : Array (Int × Value)} {ep : Nat} {t : SetTable} {x : Addr × PyData} {o : Obj}
theorem El.but {h h' : Heap} {p : Addr × PyData} (hp : El h p) (ho : h.get? a = some o) (hd : o.data = .set es ep t) (sb : Heap.SameBut a h h') : El h' p := by
  obtain ⟨⟨as, r⟩, h2, h3⟩ := hp
  refine ⟨⟨as, reads_but (a := a) (fun o' vs n e z => ?_) sb _ h2 r⟩, h2, h3⟩
  rw [ho] at e
  cases e
  rw [hd] at z
  cases z
/-- the table laid anew -/
theorem set_grow (ho : s.heap.get? a = some o) (hex : o.ExactSet) (hd : o.data = .set es ep t) (hr : es.toList = L.map (El.row w)) (tab : TabOk t (L.map fun p => hshK w p.2)) (els : ∀ p ∈ L, El s.heap p) (few : L.length < 64) (le : L.length ≤ t.mask)
    {want M : Nat} (hw : SetTable.sizeAbove want = M + 1) (hM : MaskOk M) (hn : L.length * 5 < M * 3) {Q : Unit → Shared → Prop}
    (q : ∀ h' L' es' ep' t', Heap.SameBut a s.heap h' → SetN w h' a L' es' ep' t' → L'.Perm L → Q () { s with heap := h' }) : wpAny (model prog w) A (setRelay a want) Q E s := by
  have sz : es.size = L.length := by rw [← Array.length_toList, hr, List.length_map]
  have mb : M ≤ 127 := by rcases hM with e | e | e <;> omega
  have psz := tab.sz
  rw [List.length_map] at psz
  obtain ⟨t', order, e1, e2, e3, e4, _, _, e5⟩ := relaid_ok t (hs := es.map (·.1)) (wanted := want) (M := M) (by omega) hM (by rw [Array.size_map, sz]; omega)
  rw [Array.size_map, sz] at e2
  obtain ⟨L', l1, l2, l3⟩ := by_order (El.row w) L es hr order e2
  have l4 := l3 (fun p => p.1) 0
  have e3' : TabOk t' (L'.map fun p => hshK w p.2) := by
    have : (L'.map fun p => hshK w p.2) = order.toList.map fun i => (es.map (fun p => p.1)).getD i 0 := l4
    rw [this]; exact e3
  have sz' : (order.filterMap (es[·]?)).size = L.length := by rw [← Array.length_toList, l1, List.length_map, l2.length_eq]
  rw [setRelay_eq]
  refine wpAny_bind (wpAny_setState_of ho hd (fits_few tab.dm (by omega) (by omega)) ?_)
  dsimp only
  rw [if_neg (by rw [hw, sizeLine_eq]; omega), e1]
  refine wpAny_bind ?_
  dsimp only
  rw [if_neg (by rw [sz', sz]; simp)]
  refine wpAny_pure ?_
  refine wpAny_storeSet_of ho hd ?_ (by rw [sz', sizeLine_eq]; omega)
  have sb : Heap.SameBut a s.heap (s.heap.update a (Obj.putSet (order.filterMap (es[·]?)) t')) := Heap.SameBut.update ..
  exact q _ L' _ (ep + 1) t' sb ⟨⟨_, store_at ho hd, ⟨hex.1, hex.2.1, hex.2.2⟩, rfl⟩, l1, e3', fun p hp => (els p (l2.mem_iff.mp hp)).but ho hd sb, by rw [l2.length_eq, e4]; exact hn, by rw [l2.length_eq]; exact few⟩ l2
/-- a key put into the set -/
theorem SetN.add (R : SetN w s.heap a L es ep t) (hx : El s.heap x) (hu : A.units + 10 < cLine) (few : L.length + 1 < 64) {Q : Bool → Shared → Prop}
    (q : ∀ b h' L' es' ep' t', Heap.SameBut a s.heap h' → SetN w h' a L' es' ep' t' → (if inK L x.2 then L' = L else L'.Perm (x :: L)) → Q b { s with heap := h' }) : wpAny (model prog w) A (setAddHashed a (.ref x.1) (hshK w x.2)) Q E s := by
  obtain ⟨o, ho, hex, hd⟩ := R.ob
  have sz := R.size
  have room := R.room
  unfold setAddHashed
  refine wpAny_holding ?_
  rw [show (100000 : Nat) = 99999 + 1 from rfl, setAddHashedIn_succ]
  refine wpAny_bind (wpAny_setState_of ho hd R.fits ?_)
  dsimp only
  rw [if_neg (by simp [byScan, Value.scannable])]
  refine wpAny_bind (R.search hx hu (fun c => ?_) fun K c hK hb => ?_)
  · exact wpAny_pure (q false s.heap L es ep t (Heap.SameBut.refl a s.heap) R (by rw [c]; rfl))
  · refine wpAny_bind (wpAny_setState_of ho hd R.fits ?_)
    obtain ⟨q1, q2, q3, q4, _, _, _, _, q9⟩ := R.tab.put hK hb
    dsimp only
    generalize t.put (way t.mask (hshK w x.2) K) = pt at q1 q3 q4 q9 ⊢
    obtain ⟨t1, p⟩ := pt
    dsimp only at q1 q3 q4 q9 ⊢
    subst q1
    generalize SetTable.below t.place (way t.mask (hshK w x.2) K) = p at q2 q3 ⊢
    have pm : (L.take p ++ x :: L.drop p).Perm (x :: L) := put_perm L p x
    have rows1 : (SetTable.insertAt es p (hshK w x.2, Value.ref x.1)).toList = (L.take p ++ x :: L.drop p).map (El.row w) := by
      rw [SetTable.toList_insertAt, R.rows, List.map_append, List.map_cons, List.map_take, List.map_drop]
    have hs1 : (L.map fun p => hshK w p.2).take p ++ hshK w x.2 :: (L.map fun p => hshK w p.2).drop p = (L.take p ++ x :: L.drop p).map fun p => hshK w p.2 := by
      rw [List.map_append, List.map_cons, List.map_take, List.map_drop]
    rw [hs1] at q3
    have len1 : (L.take p ++ x :: L.drop p).length = L.length + 1 := by rw [pm.length_eq]; rfl
    have cont : ∀ b : Bool, wpAny (model prog w) A (do
        storeSet a (SetTable.insertAt es p (hshK w x.2, Value.ref x.1)) (if b = true then t1 else { t1 with plain := false })
        if (!false && (if b = true then t1 else { t1 with plain := false }).tooFull) = true then setRelay a (SetTable.grown (es.size + 1))
        pure true) Q E s := by
      intro b
      obtain ⟨t2, h2⟩ : ∃ t2, t2 = (if b = true then t1 else { t1 with plain := false }) := ⟨_, rfl⟩
      have T2 : TabOk t2 ((L.take p ++ x :: L.drop p).map fun p => hshK w p.2) ∧ t2.mask = t.mask ∧ t2.fill = L.length + 1 := by
        rw [h2]
        rw [List.length_map] at q9
        cases b
        · exact ⟨⟨q3.ris, q3.dm, q3.sz, q3.mok, q3.bd, q3.reach⟩, q4, q9⟩
        · exact ⟨q3, q4, q9⟩
      rw [← h2]
      obtain ⟨T2, m2, f2⟩ := T2
      generalize SetTable.insertAt es p (hshK w x.2, Value.ref x.1) = es1 at rows1 ⊢
      have sz1 : es1.size = L.length + 1 := by rw [← Array.length_toList, rows1, List.length_map, len1]
      generalize L.take p ++ x :: L.drop p = L1 at *
      refine wpAny_bind (wpAny_storeSet_of ho hd ?_ (by rw [sz1, sizeLine_eq]; omega))
      have sb : Heap.SameBut a s.heap (s.heap.update a (Obj.putSet es1 t2)) := Heap.SameBut.update ..
      have ho1 := store_at (es' := es1) (t' := t2) ho hd
      generalize s.heap.update a (Obj.putSet es1 t2) = h1 at sb ho1 ⊢
      have els1 : ∀ p ∈ L1, El h1 p := fun p hp => by
        rcases List.mem_cons.mp (pm.mem_iff.mp hp) with e | hp
        · rw [e]; exact hx.but ho hd sb
        · exact (R.els p hp).but ho hd sb
      have tf : t2.tooFull = decide ((L.length + 1) * 5 ≥ t.mask * 3) := by unfold SetTable.tooFull; rw [f2, m2]
      rw [tf]
      by_cases full : (L.length + 1) * 5 ≥ t.mask * 3
      · simp only [Bool.not_false, Bool.true_and, decide_eq_true full, if_true]
        have two : L.length = 4 ∨ L.length = 18 := by rcases R.tab.mok with e | e | e <;> rw [e] at full room <;> omega
        have grow : ∀ M, SetTable.sizeAbove (SetTable.grown (es.size + 1)) = M + 1 → MaskOk M → (L.length + 1) * 5 < M * 3 → wpAny (model prog w) A (setRelay a (SetTable.grown (es.size + 1)) >>= fun _ => pure true) Q E { s with heap := h1 } := fun M g1 g2 g3 => by
          refine wpAny_bind (set_grow (s := { s with heap := h1 }) (L := L1) ho1 ⟨hex.1, hex.2.1, hex.2.2⟩ rfl rows1 T2 els1 (by omega) (by omega) g1 g2 (by omega) fun h' L' es' ep' t' sb' R' pm' => ?_)
          exact wpAny_pure (q true h' L' es' ep' t' (sb.trans sb') R' (by rw [c]; exact pm'.trans pm))
        rcases two with e | e
        · exact grow 31 (by rw [sz, e, size_20]) (.inr (.inl rfl)) (by omega)
        · exact grow 127 (by rw [sz, e, size_76]) (.inr (.inr rfl)) (by omega)
      · simp only [Bool.not_false, Bool.true_and, decide_eq_false full, Bool.false_eq_true, if_false]
        exact wpAny_pure (q true h1 L1 es1 (ep + 1) t2 sb ⟨⟨_, ho1, ⟨hex.1, hex.2.1, hex.2.2⟩, rfl⟩, rows1, T2, els1, by omega, by omega⟩ (by rw [c]; exact pm))
    obtain ⟨as, r⟩ := hx.rd
    cases pl : t1.plain with
    | true =>
      simp only [if_true]
      exact wpAny_bind (byval_data 8 x.2 r hx.has fun b => cont b)
    | false =>
      simp only [Bool.false_eq_true, if_false]
      exact wpAny_bind (wpAny_pure (cont true))
end
end DL

set_option Elab.async false
set_option linter.all false
set_option maxRecDepth 100000
set_option maxHeartbeats 4000000
set_option autoImplicit false
namespace DL
open PySem PySem.Spec PyProof.Rows L2
/-! ### a set filled from anything that is walked, by what holds behind each item -/
section
variable {prog : Program} {w : World} {A : Around} {R : Result → Shared → Prop} {I : Addr} {fp wr : List Addr} {G : Array GenState → Array GenState → Prop} {n : Nat} {P : Nat → Value → Prop} {St : Nat → Shared → Prop}
end
section
variable {prog : Program} {w : World} {A : Around} {E : Value → Shared → Prop} {s : Shared}
end
end DL

set_option Elab.async false
set_option linter.all false
set_option maxRecDepth 100000
set_option maxHeartbeats 4000000
set_option autoImplicit false
namespace DL
open PySem PySem.Spec PyProof.Rows L2
/-! ### len(set(..)) of nested data -/
def kStep (acc : List PyData) (k : PyData) : List PyData := if acc.any (fun z => PyData.eqv z k) then acc else acc ++ [k]
def kSet (ks : List PyData) : List PyData := ks.foldl kStep []
theorem kSet_snoc (ks : List PyData) (k : PyData) : kSet (ks ++ [k]) = kStep (kSet ks) k := by unfold kSet; rw [List.foldl_append]; rfl
theorem kStep_len (acc : List PyData) (k : PyData) : (kStep acc k).length ≤ acc.length + 1 := by unfold kStep; split <;> simp
theorem kSet_le : ∀ (ks acc : List PyData), (ks.foldl kStep acc).length ≤ acc.length + ks.length
  | [], acc => Nat.le_refl _
  | k :: ks, acc => by
    have h1 := kSet_le ks (kStep acc k)
    have h2 := kStep_len acc k
    simp only [List.foldl_cons, List.length_cons]
    omega
section
variable {prog : Program} {w : World} {A : Around} {E : Value → Shared → Prop} {s : Shared}
/-- the set holds what has come, each once -/
structure Came (w : World) (h0 h : Heap) (S : Addr) (ks : List (Addr × PyData)) (i : Nat) : Prop where
  keeps : ∀ b o, h0.get? b = some o → h.get? b = some o
  set : ∃ L es ep t, SetN w h S L es ep t ∧ (∀ p ∈ L, p ∈ ks) ∧ L.length = (kSet ((ks.take i).map (·.2))).length ∧ ∀ z, hasK z = true → inK L z = (kSet ((ks.take i).map (·.2))).any fun y => PyData.eqv y z
theorem Came.next {h0 : Heap} {S : Addr} {ks : List (Addr × PyData)} (els : ∀ p ∈ ks, El h0 p) (few : ks.length < 64) (hS : h0.get? S = none) (hu : A.units + 20 < cLine) {i : Nat} {x : Addr × PyData} (hi : ks[i]? = some x) (C : Came w h0 s.heap S ks i) {Q : Bool → Shared → Prop}
    (q : ∀ b h' tk, s.toks ≤ tk → Heap.SameBut S s.heap h' → Came w h0 h' S ks (i + 1) → Q b { s with heap := h', toks := tk }) : wpAny (model prog w) A (setAdd S (.ref x.1)) Q E s := by
  obtain ⟨L, es, ep, t, N, sub, len, mem⟩ := C.set
  have hx0 := els x (List.mem_of_getElem? hi)
  have up : ∀ p ∈ ks, El s.heap p := fun p hp => by
    obtain ⟨⟨as, r⟩, h2, h3⟩ := els p hp
    exact ⟨⟨as, Reads.keeps C.keeps r⟩, h2, h3⟩
  have hx := up x (List.mem_of_getElem? hi)
  obtain ⟨as, r⟩ := hx.rd
  have il : i < ks.length := (List.getElem?_eq_some_iff.mp hi).1
  have lt : L.length ≤ i := by
    rw [len]
    have := kSet_le ((ks.take i).map (·.2)) []
    rw [List.length_map, List.length_take] at this
    simp only [List.length_nil] at this
    unfold kSet
    omega
  unfold setAdd
  refine wpAny_holding (wpAny_bind (hash_data x.2 r hx.has (by have := hx.dp; omega) ?_))
  refine SetN.add (s := { s with toks := s.toks + drwK x.2 }) N hx (by omega) (by omega) fun b h' L' es' ep' t' sb N' hL => ?_
  have tk : (ks.take (i + 1)).map (·.2) = (ks.take i).map (·.2) ++ [x.2] := by rw [List.take_add_one, hi, List.map_append]; rfl
  refine q b h' _ (Nat.le_add_right _ _) sb ⟨fun c o e => (sb.2 c fun z => by rw [z, hS] at e; cases e).trans (C.keeps c o e), L', es', ep', t', N', ?_⟩
  rw [tk, kSet_snoc]
  have mx := mem x.2 hx.has
  unfold kStep
  rw [← mx]
  cases c : inK L x.2 with
  | true =>
    rw [c] at hL
    simp only [if_true] at hL
    subst hL
    exact ⟨sub, len, mem⟩
  | false =>
    rw [c] at hL
    simp only [Bool.false_eq_true, if_false] at hL ⊢
    refine ⟨fun p hp => ?_, by rw [hL.length_eq, List.length_cons, List.length_append, len]; rfl, fun z hz => ?_⟩
    · rcases List.mem_cons.mp (hL.mem_iff.mp hp) with e | hp
      · rw [e]; exact List.mem_of_getElem? hi
      · exact sub p hp
    · rw [List.any_append, ← mem z hz]
      show L'.any _ = _
      rw [hL.any_eq]
      simp only [List.any_cons, List.any_nil, Bool.or_false]
      exact Bool.or_comm _ _
theorem Came.keep {h0 h h' : Heap} {S : Addr} {ks : List (Addr × PyData)} {i : Nat} {wr : List Addr} (els : ∀ p ∈ ks, El h0 p) (hS : S ∉ wr) (h1 : ∀ b ∈ wr, h0.get? b = none) (k : ∀ b o, b ∉ wr → h.get? b = some o → h'.get? b = some o) (C : Came w h0 h S ks i) : Came w h0 h' S ks i := by
  obtain ⟨L, es, ep, t, N, sub, rest⟩ := C.set
  have kp : ∀ b o, h0.get? b = some o → h'.get? b = some o := fun b o e => k b o (fun z => by rw [h1 b z] at e; cases e) (C.keeps b o e)
  obtain ⟨o, ho, r⟩ := N.ob
  refine ⟨kp, L, es, ep, t, ⟨⟨o, k S o hS ho, r⟩, N.rows, N.tab, fun p hp => ?_, N.room, N.few⟩, sub, rest⟩
  obtain ⟨⟨as, r⟩, h2, h3⟩ := els p (sub p hp)
  exact ⟨⟨as, Reads.keeps kp r⟩, h2, h3⟩
end
section
variable {X : Cx}
end
end DL

set_option Elab.async false
set_option linter.all false
set_option maxRecDepth 100000
set_option maxHeartbeats 4000000
set_option autoImplicit false
namespace DL
open PySem PySem.Spec PyProof.Rows L2
/-! ### sum(lists, start) -/
section
variable {prog : Program} {w : World} {A : Around} {R : Result → Shared → Prop} {I : Addr} {fp wr : List Addr} {G : Array GenState → Array GenState → Prop} {n : Nat} {P : Nat → Value → Prop} {St : Nat → Shared → Prop}
theorem sum_loop (W : WalksS prog w A.in1 I fp wr G n P St) {S : Addr} (hS : S ∉ fp) {J : Nat → Addr → Heap → Prop} (keep : ∀ i a h h', (∀ b o, b ∉ S :: wr → h.get? b = some o → h'.get? b = some o) → J i a h → J i a h')
    (step : ∀ i v a (s : Shared) (E : Value → Shared → Prop) (Q : Value → Shared → Prop), i < n → P i v → (∃ o, s.heap.get? S = some o) → J i a s.heap → (∀ r h', (∀ b o, s.heap.get? b = some o → h'.get? b = some o) → J (i + 1) r h' → Q (.ref r) { s with heap := h' }) → wpAny (model prog w) A.in1 (binaryOp .Add (.ref a) v) Q E s) :
    ∀ (m i : Nat) (s : Shared) (a : Addr) (c : Nat), i + m = n → St i s → J i a s.heap → s.heap.get? S = some { cls := .type "list", dict := none, data := .seq #[.ref a] c, slots := #[] } →
    (∀ s' r, Moved (S :: wr) G s s' → J n r s'.heap → R (.ok (.ret (.ref r))) s') → codeAny (model prog w) A (.builtin "sum.loop" ⟨[.ref I, .ref S, rawInt 2, rawInt 0], []⟩) R s := by
  have up : ∀ b ∈ wr, b ∈ S :: wr := fun b hb => List.mem_cons_of_mem _ hb
  have nS : S ∉ wr := fun h => hS (W.sub _ h)
  intro m
  induction m with
  | zero =>
    intro i s a c hm hst hj ho hR
    obtain rfl : i = n := by omega
    refine codeAny_builtin PySem.F.entry_sum_loop ?_
    rw [Around.under_plainId PySem.F.plain_sum_loop _]
    show wpAny _ A.in1 (seqItems? (.ref S) >>= _) _ _ s
    refine wpAny_bind (wpAny_seqItems ho rfl ?_)
    show wpAny _ A.in1 (tryCatch (pyNext (.ref I)) _ >>= _) _ _ s
    refine wpAny_bind (wpAny_tryCatch (W.done s _ _ hst fun s' mv => ?_))
    exact wpAny_pure (hR s' a (mv.mono up) (keep _ _ _ _ (mv.mono up).heap hj))
  | succ m ih =>
    intro i s a c hm hst hj ho hR
    refine codeAny_builtin PySem.F.entry_sum_loop ?_
    rw [Around.under_plainId PySem.F.plain_sum_loop _]
    show wpAny _ A.in1 (seqItems? (.ref S) >>= _) _ _ s
    refine wpAny_bind (wpAny_seqItems ho rfl ?_)
    show wpAny _ A.in1 (tryCatch (pyNext (.ref I)) _ >>= _) _ _ s
    refine wpAny_bind (wpAny_tryCatch (W.item i s _ _ (by omega) hst fun v s1 hp st1 mv => ?_))
    have ho1 := mv.heap S _ nS ho
    show wpAny _ A.in1 ((holding [v] (binaryOp .Add (.ref a) v)).attempt >>= _) _ _ s1
    refine wpAny_bind (wpAny_attempt (wpAny_holding (step i v a s1 _ _ (by omega) hp ⟨_, ho1⟩ (keep _ _ _ _ (mv.mono up).heap hj) fun r h' hk j' => ?_)))
    have ho2 := hk S _ ho1
    show wpAny _ A.in1 (updateSeq S (fun _ => #[.ref r]) >>= _) _ _ _
    refine wpAny_bind (wpAny_updateSeq ho2 rfl ?_)
    have ho3 := Heap.get?_update_self (Obj.mapSeq fun _ => #[Value.ref r]) ho2 rfl
    refine wpAny_bind (wpAny_letGo ?_)
    have ne : ∀ (b : Addr) (o : Obj), b ≠ S → s1.heap.get? b = some o → ((h'.update S (Obj.mapSeq fun _ => #[Value.ref r])).update S (Obj.mapSeq fun _ => #[Value.ref r])).get? b = some o := fun b o z e => (Heap.get?_update_other _ _ (fun q : S = b => z q.symm)).trans ((Heap.get?_update_other _ _ (fun q : S = b => z q.symm)).trans (hk b o e))
    have ne' : ∀ (b : Addr) (o : Obj), b ∉ S :: wr → h'.get? b = some o → ((h'.update S (Obj.mapSeq fun _ => #[Value.ref r])).update S (Obj.mapSeq fun _ => #[Value.ref r])).get? b = some o := fun b o z e => (Heap.get?_update_other _ _ (fun q : S = b => z (q ▸ List.mem_cons_self))).trans ((Heap.get?_update_other _ _ (fun q : S = b => z (q ▸ List.mem_cons_self))).trans e)
    refine wpAny_bind (wpAny_updateSeq ho3 rfl (wpAny_pure ⟨plainId_quiet PySem.F.plain_sum_loop _, ih (i + 1) _ r _ (by omega) (W.frame _ s1 _ _ st1 (Nat.le_refl _) fun b hb o e => ne b o (fun z => hS (z ▸ hb)) e) (keep _ _ _ _ ne' j') (Heap.get?_update_self _ ho3 rfl) fun s2 r2 mv2 j2 => hR s2 r2 ?_ j2⟩))
    exact Moved.trans W.gtrans ((mv.mono up).then_heap (Nat.le_refl _) fun b o hb e => ne b o (fun z => hb (z ▸ List.mem_cons_self)) e) mv2
end
section
variable {prog : Program} {w : World} {A : Around} {E : Value → Shared → Prop} {s : Shared}
theorem args_sum2 (a b : Value) : argsOk "sum" ⟨[a, b], []⟩ := by unfold argsOk; kernel_rfl
end
end DL

set_option Elab.async false
set_option linter.all false
set_option maxRecDepth 100000
set_option maxHeartbeats 4000000
set_option autoImplicit false
namespace DL
open PySem PySem.Spec PyProof.Rows L2
section
variable {X : Cx} {pins : List (Addr × Obj)} {σ : L2.St} {H : Hp} {s : Shared}
end
section
variable {X : Cx}
end
end DL

set_option Elab.async false
set_option linter.all false
set_option maxRecDepth 100000
set_option maxHeartbeats 4000000
set_option autoImplicit false
namespace DL
open PySem PySem.Spec PyProof.Rows L2
/-! ### len(set(..)), read by types -/
mutual
def kyD : D → Bool
  | .int _ => true | .str _ => true | .bl _ => true
  | .tup ds => kyDs ds
  | _ => false
def kyDs : List D → Bool
  | [] => true
  | d :: ds => kyD d && kyDs ds
end
mutual
theorem kyD_ok : ∀ {d : D}, kyD d = true → ∃ a, toPy d = some a ∧ hasK a = true ∧ a.depth = depD d
  | .int i, _ => ⟨.int i, by simp only [toPy], by simp [hasK], by simp [PyData.depth, depD]⟩
  | .str i, _ => ⟨.str i, by simp only [toPy], by simp [hasK], by simp [PyData.depth, depD]⟩
  | .bl i, _ => ⟨.bool i, by simp only [toPy], by simp [hasK], by simp [PyData.depth, depD]⟩
  | .tup ds, h => by
    simp only [kyD] at h
    obtain ⟨as, e, h1, h2⟩ := kyDs_ok h
    exact ⟨.tuple as, by simp only [toPy, e]; rfl, by simp only [hasK]; exact h1, by simp only [PyData.depth, depD, h2]⟩
  | .non, h => by simp [kyD] at h
  | .lst _, h => by simp [kyD] at h
  | .nt _, h => by simp [kyD] at h
  | .ty _, h => by simp [kyD] at h
  | .ref _, h => by simp [kyD] at h
  | .any _, h => by simp [kyD] at h
theorem kyDs_ok : ∀ {ds : List D}, kyDs ds = true → ∃ as, toPys ds = some as ∧ hasKs as = true ∧ PyData.depthAll as = depDs ds
  | [], _ => ⟨[], by simp only [toPys], rfl, by simp [PyData.depthAll, depDs]⟩
  | d :: ds, h => by
    simp only [kyDs, Bool.and_eq_true] at h
    obtain ⟨a, e, h1, h2⟩ := kyD_ok h.1
    obtain ⟨as, e', h1', h2'⟩ := kyDs_ok h.2
    exact ⟨a :: as, by simp only [toPys, e, e'], by simp only [hasKs, h1, h1']; rfl, by simp only [PyData.depthAll, depDs, h2, h2']⟩
end
end DL

set_option Elab.async false
set_option linter.all false
set_option maxRecDepth 100000
set_option maxHeartbeats 4000000
set_option autoImplicit false
namespace DL
open PySem PySem.Spec PyProof.Rows L2
/-! ### dicts whose keys are mixed, nested data: read and written -/
section
variable {prog : Program} {w : World} {A : Around} {E : Value → Shared → Prop} {s : Shared} {d : Addr} {o : Obj} {es : Array DictEntry} {ep : Nat} {ks : List PyData} {key v : Value} {k : PyData} {as : List Addr}
theorem get_data {Q : Option Value → Shared → Prop} (ho : s.heap.get? d = some o) (hd : o.data = .dict es ep) (X : Ents w s.heap ks es) (rk : Reads s.heap key k as) (hk : hasK k = true) (hkd : k.depth ≤ 8) (hu : A.units + 10 < cLine)
    (q : Q ((ks.findIdx? fun z => PyData.eqv z k).bind fun i => es[i]?.map (·.val)) { s with toks := s.toks + drwK k }) : wpAny (model prog w) A (dictGet d key) Q E s := by
  unfold dictGet
  try with_reducible refine wpAny_holding ?_
  refine wpAny_bind (hash_data k rk hk (by omega) (wpAny_bind (find_data (s := { s with toks := s.toks + drwK k }) ho hd X rk hk hkd hu ?_)))
  cases e : ks.findIdx? fun z => PyData.eqv z k with
  | none => rw [e] at q; exact wpAny_pure q
  | some i =>
    rw [e] at q
    refine wpAny_bind (wpAny_dictEntries (s := { s with toks := s.toks + drwK k }) ho hd ?_)
    exact wpAny_pure q
theorem put_data {Q : Unit → Shared → Prop} (ho : s.heap.get? d = some o) (hd : o.data = .dict es ep) (X : Ents w s.heap ks es) (rk : Reads s.heap key k as) (hk : hasK k = true) (hkd : k.depth ≤ 8) (hu : A.units + 10 < cLine) (hz : es.size ≤ sizeLine)
    (q1 : (ks.findIdx? fun z => PyData.eqv z k) = none → Q () { s with heap := s.heap.update d (Obj.mapDictKeys (·.push ⟨hshK w k, key, v⟩)), toks := s.toks + drwK k })
    (q2 : ∀ i, (ks.findIdx? fun z => PyData.eqv z k) = some i → Q () { s with heap := s.heap.update d (Obj.mapDict (·.modify i fun e => { e with val := v })), toks := s.toks + drwK k }) : wpAny (model prog w) A (dictSet d key v) Q E s := by
  unfold dictSet
  try with_reducible refine wpAny_holding ?_
  refine wpAny_bind (hash_data k rk hk (by omega) ?_)
  unfold dictSetHashed
  try with_reducible refine wpAny_holding ?_
  refine wpAny_bind (find_data (s := { s with toks := s.toks + drwK k }) ho hd X rk hk hkd hu ?_)
  cases e : ks.findIdx? fun z => PyData.eqv z k with
  | none => exact wpAny_bind (wpAny_rule (wpAny_updateDictKeys (hz := hz) (s := { s with toks := s.toks + drwK k }) ho hd (q1 e)))
  | some i => exact wpAny_bind (wpAny_rule (wpAny_bind (wpAny_updateDict (s := { s with toks := s.toks + drwK k }) ho hd (wpAny_point (q2 i e)))))
theorem in_data {Q : Bool → Shared → Prop} (ho : s.heap.get? d = some o) (hex : o.ExactDict) (hd : o.data = .dict es ep) (X : Ents w s.heap ks es) (rk : Reads s.heap key k as) (hk : hasK k = true) (hkd : k.depth ≤ 8) (hu : A.units + 11 < cLine) (hs : (d == sysModules) = false)
    (q : Q (ks.findIdx? fun z => PyData.eqv z k).isSome { s with toks := s.toks + drwK k }) : wpAny (model prog w) A (contains (.ref d) key) Q E s := by
  have ty : s.TypeIs (.ref d) "dict" := ⟨o, ho, hex.1⟩
  unfold contains
  try with_reducible refine wpAny_holding ?_
  refine wpAny_bind (wpAny_specialOf ty slot_dict_contains.lookup ?_)
  show wpAny _ _ (if (some (Value.builtin "dict.__contains__") == some Value.none) = true then _ else _) _ E s
  rw [if_neg (by rw [beq_builtin_none]; exact Bool.false_ne_true)]
  refine wpAny_bind (wpAny_callSpecialUnlessNone?_slot (name := Str.ofString "__contains__") ty slot_dict_contains (wpAny_call_entry slot_dict_contains ty entry_dict_contains ?_ (args_dict_contains _ _)))
  show wpAny _ _ (dictGet d key >>= _) _ _ s
  refine wpAny_bind (get_data ho hd X rk hk hkd (by show A.units + 1 + 10 < cLine; omega) ?_)
  cases hf : ks.findIdx? fun z => PyData.eqv z k with
  | some i =>
    rw [hf] at q
    have hi : i < ks.length := (List.findIdx?_eq_some_iff_getElem.mp hf).1
    have hi2 : i < es.size := by rw [X.len]; exact hi
    simp only [Option.bind_some, Array.getElem?_eq_getElem hi2, Option.map_some]
    show wpAny _ _ (ret (.bool true)) _ _ _
    exact wpAny_pure ⟨_, rfl, wpAny_truthy_bool q⟩
  | none =>
    rw [hf] at q
    show wpAny _ _ (Builtin.Dict.pendingKey? d key >>= _) _ _ _
    exact wpAny_bind (wpAny_pendingKey_other hs (wpAny_pure ⟨_, rfl, wpAny_truthy_bool q⟩))
theorem st_data {Q : Unit → Shared → Prop} (ho : s.heap.get? d = some o) (hex : o.ExactDict) (hd : o.data = .dict es ep) (X : Ents w s.heap ks es) (rk : Reads s.heap key k as) (hk : hasK k = true) (hkd : k.depth ≤ 8) (hu : A.units + 11 < cLine) (hz : es.size ≤ sizeLine)
    (q1 : (ks.findIdx? fun z => PyData.eqv z k) = none → Q () { s with heap := s.heap.update d (Obj.mapDictKeys (·.push ⟨hshK w k, key, v⟩)), toks := s.toks + drwK k })
    (q2 : ∀ i, (ks.findIdx? fun z => PyData.eqv z k) = some i → Q () { s with heap := s.heap.update d (Obj.mapDict (·.modify i fun e => { e with val := v })), toks := s.toks + drwK k }) : wpAny (model prog w) A (setItem (.ref d) key v) Q E s := by
  have ty : s.TypeIs (.ref d) "dict" := ⟨o, ho, hex.1⟩
  unfold setItem
  try with_reducible refine wpAny_holding ?_
  refine wpAny_bind (wpAny_sequenceKey ty (by decide) ?_)
  refine wpAny_bind (wpAny_callSpecial?_slot (name := Str.ofString "__setitem__") ty slot_dict_setitem (wpAny_call_entry slot_dict_setitem ty entry_dict_setitem ?_ (args_dict_setitem _ _ _)))
  show wpAny _ _ (Builtin.Dict.notOrdered "__setitem__" ⟨[.ref d, key, v], []⟩ >>= _) _ _ s
  refine wpAny_bind (wpAny_notOrdered_dict ty ?_)
  show wpAny _ _ (dictSet d key v >>= _) _ _ s
  exact wpAny_bind (put_data ho hd X rk hk hkd (by show A.units + 1 + 10 < cLine; omega) hz (fun e => wpAny_pure ⟨.none, rfl, wpAny_pure (q1 e)⟩) fun i e => wpAny_pure ⟨.none, rfl, wpAny_pure (q2 i e)⟩)
end
/-! ### by data -/
def hshD (w : World) (d : D) : Int := hshK w ((toPy d).getD .none)
def KyOk (kvs : List (D × D)) : Prop := (∀ k ∈ kvs.map (·.1), kyD k = true ∧ depD k ≤ 8) ∧ (kvs.map (·.1)).Pairwise fun p q => eqD p q = false
abbrev GO.dN (w : World) (kvs : List (D × D)) : GO := .dX KyOk (hshD w) kvs
def ixX (kvs : List (D × D)) (k : D) : Option Nat := kvs.findIdx? fun p => eqD p.1 k
def putX (kvs : List (D × D)) (k v : D) : List (D × D) := match ixX kvs k with
  | some i => kvs.modify i fun p => (p.1, v)
  | none => kvs ++ [(k, v)]
theorem Paired.get {α β : Type} {F : α → β → Prop} : ∀ {xs : List α} {ys : List β} {i : Nat} {a : α}, Paired F xs ys → xs[i]? = some a → ∃ b, ys[i]? = some b ∧ F a b
  | _, _, _, _, .nil, e => by simp at e
  | _, _, 0, _, .cons r t, e => by simp at e; subst e; exact ⟨_, rfl, r⟩
  | _, _, i + 1, a, .cons r t, e => by
    obtain ⟨b, h1, h2⟩ := Paired.get t (i := i) (a := a) (by simpa using e)
    exact ⟨b, by simpa using h1, h2⟩
theorem Paired.app {α β : Type} {F : α → β → Prop} : ∀ {xs xs' : List α} {ys ys' : List β}, Paired F xs ys → Paired F xs' ys' → Paired F (xs ++ xs') (ys ++ ys')
  | _, _, _, _, .nil, q => q
  | _, _, _, _, .cons r t, q => .cons r (Paired.app t q)
theorem Paired.modify {α β : Type} {F : α → β → Prop} {f : α → α} {g : β → β} (h : ∀ a b, F a b → F (f a) (g b)) : ∀ {xs : List α} {ys : List β} (i : Nat), Paired F xs ys → Paired F (xs.modify i f) (ys.modify i g)
  | _, _, _, .nil => by simp; exact .nil
  | _, _, 0, .cons r t => by simp; exact .cons (h _ _ r) t
  | _, _, i + 1, .cons r t => by simp; exact .cons r (Paired.modify h i t)
end DL

set_option Elab.async false
set_option linter.all false
set_option maxRecDepth 100000
set_option maxHeartbeats 4000000
set_option autoImplicit false
namespace DL
open PySem PySem.Spec PyProof.Rows L2
def pyN (d : D) : PyData := (toPy d).getD .none
theorem pyN_ok {d : D} (h : kyD d = true) : toPy d = some (pyN d) ∧ hasK (pyN d) = true ∧ (pyN d).depth = depD d := by
  obtain ⟨a, e, h1, h2⟩ := kyD_ok h
  unfold pyN
  rw [e]
  exact ⟨rfl, h1, h2⟩
theorem keys_modify (kvs : List (D × D)) (v : D) : ∀ i : Nat, (kvs.modify i fun p => (p.1, v)).map (·.1) = kvs.map (·.1) := by
  induction kvs with
  | nil => intro i; simp
  | cons p kvs ih =>
    intro i
    cases i with
    | zero => simp
    | succ i => simp only [List.modify_succ_cons, List.map_cons, ih]
theorem KyOk.put {kvs : List (D × D)} (ok : KyOk kvs) {k v : D} (hk : kyD k = true) (hd : depD k ≤ 8) : KyOk (putX kvs k v) := by
  unfold putX
  split
  · unfold KyOk
    rw [keys_modify]
    exact ok
  · rename_i e
    unfold KyOk
    rw [List.map_append, List.map_singleton]
    refine ⟨fun z hz => ?_, ?_⟩
    · rcases List.mem_append.mp hz with hz | hz
      · exact ok.1 z hz
      · rw [List.mem_singleton.mp hz]; exact ⟨hk, hd⟩
    · rw [List.pairwise_append]
      refine ⟨ok.2, List.pairwise_singleton _ _, fun z hz y hy => ?_⟩
      rw [List.mem_singleton.mp hy]
      obtain ⟨p, hp, rfl⟩ := List.mem_map.mp hz
      unfold ixX at e
      rw [List.findIdx?_eq_none_iff] at e
      exact e p hp
section
variable {X : Cx} {pins : List (Addr × Obj)} {σ : L2.St} {H : Hp} {s : Shared} {N : Ns} {a : Addr} {kvs : List (D × D)} {kvs' : List (Int × V × V)}
theorem dxo_ok {P : Program} {w : World} {H : Hp} {h : Heap} (x : DxIs h a kvs') : ObjOk P w H h a (DxO a kvs') := by
  refine ⟨x, ?_, fun h1 h2 q st => ?_⟩
  · obtain ⟨_, _, o, _, _, ho, _⟩ := x
    exact ⟨o, ho⟩
  · obtain ⟨z1, z2, o, es, ep, ho, r⟩ := q
    exact ⟨z1, z2, o, es, ep, st o ho, r⟩
theorem dx_ents (I : Inv X pins σ H s) (hH : H a = some (DxO a kvs')) (r : RXV X.K H N (hshD X.w) kvs kvs') (ok : KyOk kvs) :
    kvs'.length ≤ sizeLine ∧ kvs.length = kvs'.length ∧ (a == sysModules) = false ∧ ∃ o es ep, s.heap.get? a = some o ∧ o.ExactDict ∧ o.data = .dict es ep ∧ es.size = kvs'.length ∧ Ents X.w s.heap (kvs.map fun p => pyN p.1) es ∧ Paired (fun (p : Int × V × V) (e : DictEntry) => e.hash = p.1 ∧ RelV p.2.1 e.key ∧ RelV p.2.2 e.val) kvs' es.toList ∧ ep = kvs'.length := by
  have hx : ObjOk X.prog X.w H s.heap a (DxO a kvs') := I.hok a _ hH
  obtain ⟨z, hs, o, es, ep, ho, hex, hd, hep, pr⟩ := hx.1
  have l1 : kvs.length = kvs'.length := Paired.length r
  have l2 : kvs'.length = es.toList.length := Paired.length pr
  have l3 : es.size = kvs'.length := by rw [l2]; simp
  have kk : ∀ p ∈ kvs, kyD p.1 = true ∧ depD p.1 ≤ 8 := fun p hp => ok.1 _ (List.mem_map.mpr ⟨p, hp, rfl⟩)
  refine ⟨z, l1, hs, o, es, ep, ho, hex, hd, l3, ⟨?_, ?_, ?_, ?_⟩, pr, hep⟩
  · rw [List.length_map]; omega
  · intro i e k h1 h2
    rw [List.getElem?_map] at h2
    obtain ⟨p, hp, rfl⟩ := Option.map_eq_some_iff.mp h2
    obtain ⟨q, hq, q1, q2, q3⟩ := Paired.get r hp
    obtain ⟨e', he', e1, e2, e3⟩ := Paired.get pr hq
    rw [Array.getElem?_toList, h1] at he'
    cases he'
    obtain ⟨k1, k2, k3⟩ := pyN_ok (kk p (List.mem_of_getElem? hp)).1
    exact ⟨by rw [e1, q1]; rfl, Dp.reads I _ _ _ (toPy_ok q2 k1) e2⟩
  · intro k hk
    obtain ⟨p, hp, rfl⟩ := List.mem_map.mp hk
    obtain ⟨k1, k2, k3⟩ := pyN_ok (kk p hp).1
    exact ⟨k2, by rw [k3]; exact (kk p hp).2⟩
  · intro i j x y hij hx hy
    rw [List.getElem?_map] at hx hy
    obtain ⟨p, hp, rfl⟩ := Option.map_eq_some_iff.mp hx
    obtain ⟨q, hq, rfl⟩ := Option.map_eq_some_iff.mp hy
    obtain ⟨i1, i2⟩ := List.getElem?_eq_some_iff.mp hp
    obtain ⟨j1, j2⟩ := List.getElem?_eq_some_iff.mp hq
    have := List.pairwise_iff_getElem.mp ok.2 i j (by rw [List.length_map]; exact i1) (by rw [List.length_map]; exact j1) hij
    rw [List.getElem_map, List.getElem_map, i2, j2] at this
    rw [eqv_eqD (pyN_ok (kk p (List.mem_of_getElem? hp)).1).1 (pyN_ok (kk q (List.mem_of_getElem? hq)).1).1]
    exact this
theorem ix_same (ok : KyOk kvs) {k : D} (hk : kyD k = true) : ((kvs.map fun p => pyN p.1).findIdx? fun z => PyData.eqv z (pyN k)) = ixX kvs k := by
  refine find_pair (by simp) fun i x p h1 h2 => ?_
  rw [List.getElem?_map, h2] at h1
  cases h1
  exact eqv_eqD (pyN_ok (ok.1 _ (List.mem_map.mpr ⟨p, List.mem_of_getElem? h2, rfl⟩)).1).1 (pyN_ok hk).1
/-- k in d -/
def dInX (w : World) (b : Bool) : DR2 := fun y x G R => ∃ a kvs, x = .ref a ∧ G a = some (GO.dN w kvs) ∧ kyD y = true ∧ depD y ≤ 8 ∧ R (.bl ((ixX kvs y).isSome == b)) G
theorem cont_data {K' : Bool → Hp → Prop} {G : Gp} {y : D} {yv : V} {u : Value} (hu : X.A.units + 11 < cLine) (I : Inv X pins σ H s) (rg : RelG X.K H N G) (hG : G a = some (GO.dN X.w kvs)) (r2 : RD X.K H N y yv) (ry : RelV yv u) (hk : kyD y = true) (hd : depD y ≤ 8) (q : K' (ixX kvs y).isSome H) :
    wpAny (model X.prog X.w) X.A (contains (.ref a) u) (fun b s' => Inv X pins σ H s' ∧ K' b H) X.xe s := by
  obtain ⟨hN, kvs', hH, rr, ok⟩ := rg a _ hG
  obtain ⟨z1, z2, z3, o, es, ep, ho, hex, hdt, z4, E, pr, hep⟩ := dx_ents I hH rr ok
  obtain ⟨k1, k2, k3⟩ := pyN_ok hk
  obtain ⟨as, rk⟩ := Dp.reads I _ _ _ (toPy_ok r2 k1) ry
  refine in_data ho hex hdt E rk k2 (by rw [k3]; exact hd) hu z3 ?_
  rw [ix_same ok hk]
  exact ⟨I.tok _, q⟩
theorem od_inX (hu : X.A.units + 11 < cLine) : OpD X (compareOp .In) (dInX X.w true) := by
  intro pins s σ H x y v u Q I rx ry h
  obtain ⟨c, d, G, N, R, r1, r2, rg, ⟨a, kvs, rfl, hG, hk, hd, hR⟩, q⟩ := h
  obtain rfl := r2.of_ref
  obtain rfl : u = Value.ref a := ry
  show wpAny (model X.prog X.w) X.A (do return Value.bool (← contains (.ref a) v)) (EP X pins σ Q) X.xe s
  refine wpAny_bind (wpAny_mono (cont_data (K' := fun b _ => b = (ixX kvs c).isSome) hu I rg hG r1 rx hk hd rfl) (fun b s' h => ?_) fun _ _ e => e)
  obtain ⟨I2, rfl⟩ := h
  exact wpAny_pure ⟨.bl (ixX kvs c).isSome, H, I2, rfl, q.at rg (by simpa using hR) (RD.bl _)⟩
/-- d[k] = v -/
def dSetX (w : World) : DSet := fun o i v G R => ∃ a kvs, o = .ref a ∧ G a = some (GO.dN w kvs) ∧ kyD i = true ∧ depD i ≤ 8 ∧ kvs.length < sizeLine ∧ R (gup G a (GO.dN w (putX kvs i v)))
theorem sd_setX (hu : X.A.units + 11 < cLine) : SetD X (dSetX X.w) := by
  intro pins s σ H o i v ov iv u Q I ro ri rv h
  obtain ⟨c, d, e, G, N, R, r1, r2, r3, rg, ⟨a, kvs, rfl, hG, hk, hd, hl, hR⟩, q⟩ := h
  obtain rfl := r1.of_ref
  obtain rfl : ov = Value.ref a := ro
  obtain ⟨hN, kvs', hH, rr, ok⟩ := rg a _ hG
  obtain ⟨z1, z2, z3, ob, es, ep, ho, hex, hdt, z4, E, pr, hep⟩ := dx_ents I hH rr ok
  obtain ⟨k1, k2, k3⟩ := pyN_ok hk
  obtain ⟨as, rk⟩ := Dp.reads I _ _ _ (toPy_ok r2 k1) ri
  have fin : ∀ (nkv : List (Int × V × V)) (h' : Heap) (tk : Nat), RXV X.K H N (hshD X.w) (putX kvs d e) nkv → DxIs h' a nkv → Heap.SameBut a s.heap h' → ∃ H', Inv X pins σ H' { s with heap := h', toks := tk } ∧ Q H' := fun nkv h' tk r dx sb => by
    have he : ∃ z, h'.get? a = some z := by obtain ⟨_, _, z, _, _, hz, _⟩ := dx; exact ⟨z, hz⟩
    refine ⟨upd H a (DxO a nkv), I.write (x := a) (e := a) (by rw [hH]; exact True.intro) (.inl rfl) (fun b o hb z => (sb.2 b hb).trans z) he (dxo_ok dx), ?_⟩
    exact q _ N _ hR (Stp.write (u := DxO a nkv) rg hG hH rfl rfl ⟨nkv, upd_same, r.le (Kp.write (u := DxO a nkv) hN hH rfl rfl), ok.put hk hd⟩)
  refine st_data ho hex hdt E rk k2 (by rw [k3]; exact hd) hu (by omega) (fun en => ?_) fun i' ei => ?_
  · rw [ix_same ok hk] at en
    refine fin (kvs' ++ [(hshD X.w d, i, v)]) _ _ ?_ ⟨by simp; omega, z3, _, _, ep + 1, Heap.get?_update_self _ ho (Obj.isFreed_of_dict (Obj.data_mapDictKeys hdt _)), hex.mapDictKeys _, Obj.data_mapDictKeys hdt _, by rw [hep, List.length_append]; rfl, ?_⟩ (Heap.SameBut.update ..)
    · unfold putX
      rw [en]
      exact Paired.app rr (.cons ⟨rfl, r2, r3⟩ .nil)
    · rw [Array.toList_push]
      exact Paired.app pr (.cons ⟨rfl, ri, rv⟩ .nil)
  · rw [ix_same ok hk] at ei
    refine fin (kvs'.modify i' fun p => (p.1, p.2.1, v)) _ _ ?_ ⟨by simp; exact z1, z3, _, _, ep, Heap.get?_update_self _ ho (Obj.isFreed_of_dict (Obj.data_mapDict hdt _)), hex.mapDict _, Obj.data_mapDict hdt _, by rw [hep, List.length_modify], ?_⟩ (Heap.SameBut.update ..)
    · unfold putX
      rw [ei]
      exact Paired.modify (fun p p' z => ⟨z.1, z.2.1, r3⟩) i' rr
    · rw [Array.toList_modify]
      exact Paired.modify (fun p p' z => ⟨z.1, z.2.1, rv⟩) i' pr
/-- {} -/
def dNewX (w : World) : DE := fun _ G R => ∀ p, G p = none → R (.ref p) (gup G p (GO.dN w []))
theorem qe_newX {pos : Pos} : QE X (.Dict [] [] pos) (dNewX X.w) := ⟨fun pins s τ H Q I h => by
  obtain ⟨σ, G, N, R, hs, rg, ht, q⟩ := h
  have hf : H s.heap.objs.size = none := I.hok.fresh (Nat.le_refl _)
  have dx : DxIs (s.heap.push { cls := .type "dict", data := .dict #[] }) s.heap.objs.size [] := ⟨Nat.zero_le _, beq_eq_false_iff_ne.mpr (Ne.symm (Nat.ne_of_lt I.big)), _, #[], 0, Heap.get?_push_size _ rfl, ⟨rfl, rfl, rfl⟩, rfl, rfl, .nil⟩
  refine wpAny_Dict_empty ⟨.ref s.heap.objs.size, _, I.laid (a := s.heap.objs.size) (o := DxO s.heap.objs.size []) (t' := s.toks) (fun _ _ q => Heap.get?_push_of_some _ q) (Nat.le_refl _) (dxo_ok dx), rfl, ?_⟩
  exact q _ _ _ _ _ (ht _ (rg.free hf)) (Stp.new (u := DxO s.heap.objs.size []) rg hf ⟨[], upd_same, Paired.nil, fun p hp => (by cases hp), List.Pairwise.nil⟩) (RD.ref _)⟩
end
end DL

set_option Elab.async false
set_option linter.all false
set_option maxRecDepth 100000
set_option maxHeartbeats 4000000
set_option autoImplicit false
namespace DL
open PySem PySem.Spec PyProof.Rows L2
/-! ### a dict display with text keys, asked at once -/
theorem rm1 {n : Nat} (h : n + 100 < cLine) : n + 1 < cLine := by omega
theorem rm11 {n : Nat} (h : n + 100 < cLine) : n + 11 < cLine := by omega
def trsOf (K : PySem.W.Frag) (l : List (Str × DE)) : List (TE × TE) := l.map fun p => (up K (dC (.str p.1)), up K p.2)
def dVals : List (Str × DE) → DA
  | [] => dNil
  | p :: l => dCons p.2 (dVals l)
theorem tPairs_of {K : PySem.W.Frag} {τ : L2.St} : ∀ (l : List (Str × DE)) {H : Hp} {N : Ns} {G : Gp} {σ : Sd} {R : List D → Gp → Prop} {Q : List (V × V) → Hp → Prop}, RSt K H N σ τ → RelG K H N G → dVals l σ G R →
    (∀ ds G' N' vs H', R ds G' → Stp K H N G H' N' G' → RDs K H' N' ds vs → Q ((l.map fun p => V.str p.1).zip vs) H') → tPairs (trsOf K l) τ H Q
  | [], H, N, G, σ, R, Q, hs, hg, ht, q => q [] G N [] H ht (Stp.refl hg) RDs.nil
  | p :: l, H, N, G, σ, R, Q, hs, hg, ht, q => by
    refine ⟨σ, G, N, fun d G' => d = .str p.1 ∧ G' = G, hs, hg, ⟨rfl, rfl⟩, fun d G' N' v H' hd s1 rd => ?_⟩
    obtain ⟨rfl, rfl⟩ := hd
    obtain rfl := rd.of_str
    refine ⟨σ, G', N', _, hs.le s1.kp, s1.rel, ht, fun d G2 N2 v2 H2 h2 s2 r2 => ?_⟩
    refine tPairs_of l ((hs.le s1.kp).le s2.kp) s2.rel h2 fun ds G3 N3 vs H3 h3 s3 r3 => ?_
    exact q (d :: ds) G3 N3 (v2 :: vs) H3 h3 (s1.trans (s2.trans s3)) (RDs.cons (r2.le s3.kp) r3)
theorem mergeK_new : ∀ (kvs acc : List (Key × V)), ((acc ++ kvs).map (·.1)).Nodup → mergeK acc kvs = acc ++ kvs
  | [], acc, _ => by simp [mergeK]
  | p :: kvs, acc, h => by
    have h1 : putK acc p.1 p.2 = acc ++ [p] := by
      unfold putK
      rw [if_neg]
      intro c
      obtain ⟨z, hz, e⟩ := List.any_eq_true.mp c
      have e : z.1 = p.1 := of_decide_eq_true e
      rw [List.map_append, List.nodup_append] at h
      exact h.2.2 z.1 (List.mem_map.mpr ⟨z, hz, rfl⟩) p.1 (by simp) e
    show mergeK (putK acc p.1 p.2) kvs = _
    rw [h1, mergeK_new kvs (acc ++ [p]) (by simpa using h)]
    simp
def lookD : List Str → List D → Str → Option D
  | n :: ns, d :: ds, z => if z = n then some d else lookD ns ds z
  | _, _, _ => none
theorem lookD_val {K : PySem.W.Frag} {H : Hp} {N : Ns} {z : Str} : ∀ {ns : List Str} {ds : List D} {vs : List V}, RDs K H N ds vs → (∀ d, lookD ns ds z = some d → ∃ v, valV ((ns.map Sum.inr).zip vs : List (Key × V)) (.inr z) = some v ∧ RD K H N d v) ∧ (lookD ns ds z = none → valV ((ns.map Sum.inr).zip vs : List (Key × V)) (.inr z) = none)
  | [], ds, vs, r => ⟨(fun d h => by simp [lookD] at h), fun _ => rfl⟩
  | n :: ns, [], vs, r => ⟨(fun d h => by cases h), fun _ => by rw [r.of_nil]; rfl⟩
  | n :: ns, d :: ds, vs, r => by
    obtain ⟨v, us, rfl, r1, r2⟩ := r.of_cons
    have ih := lookD_val (z := z) (ns := ns) r2
    simp only [lookD, List.map_cons, List.zip_cons_cons]
    by_cases e : z = n
    · subst e
      rw [if_pos rfl, valV_pos rfl]
      exact ⟨fun d' h => ⟨v, rfl, by cases h; exact r1⟩, fun h => by cases h⟩
    · rw [if_neg e, valV_neg (by simpa using Ne.symm e)]
      exact ih
section
variable {X : Cx} {pos : Pos} {keys : List (Option Expr)} {values : List Expr}
/-- a new object that is not known, of which it is not said that it never changes -/
theorem Stp.newN {K : PySem.W.Frag} {H : Hp} {N : Ns} {G : Gp} {p : Addr} {u : HO} (r : RelG K H N G) (h : H p = none) : Stp K H N G (upd H p u) (nadd N p) G := by
  refine ⟨Kp.new h, fun q x e n => ⟨by rw [upd_ne (ne_of_none e h)]; exact e, n, .inr⟩, fun a o' e => ?_⟩
  obtain ⟨x, hx, _⟩ := (r a o' e).2.here
  exact ⟨.inr (r a o' e).1, (r a o' e).2.le (Kp.new h) (upd_ne (ne_of_none hx h))⟩
def tLit (K : PySem.W.Frag) (l : List (Str × DE)) : TE := fun τ H Q => ∃ σ G N R, RSt K H N σ τ ∧ RelG K H N G ∧ dVals l σ G R ∧
  ∀ ds G' N' H' p vs, R ds G' → Stp K H N G H' N' G' → H' p = some (.dK ((l.map fun q => (Sum.inr q.1 : Key)).zip vs)) → G' p = none → RDs K H' N' ds vs → Q (.ref p) H'
theorem zip_split : ∀ (l : List (Str × DE)) (vs : List V), (l.map fun p => V.str p.1).zip vs = (((l.map fun q => (Sum.inr q.1 : Key)).zip vs).map fun kv => (kV kv.1, kv.2))
  | [], _ => rfl
  | p :: l, [] => rfl
  | p :: l, v :: vs => by simp only [List.map_cons, List.zip_cons_cons, zip_split l vs]; rfl
theorem zip_nodup : ∀ (l : List (Str × DE)) (vs : List V), (l.map (·.1)).Nodup → (((l.map fun q => (Sum.inr q.1 : Key)).zip vs).map (·.1)).Nodup := fun l vs h => by
  have h2 : (l.map fun q => (Sum.inr q.1 : Key)).Nodup := by
    rw [show (l.map fun q => (Sum.inr q.1 : Key)) = (l.map (·.1)).map Sum.inr by rw [List.map_map]; rfl]
    exact List.Pairwise.map _ (fun a b h e => h (by cases e; rfl)) h
  refine List.Nodup.sublist ?_ h2
  clear h h2
  generalize l.map (fun q => (Sum.inr q.1 : Key)) = ks
  induction ks generalizing vs with
  | nil => simp
  | cons k ks ih =>
    cases vs with
    | nil => simp
    | cons v vs => simpa using ih vs
theorem pe_lit {l : List (Str × DE)} (h : PPs X pos keys values (trsOf X.K l)) (hall : keys.all (·.isSome) = true) (hl : keys.length = values.length) (h0 : keys ≠ []) (h15 : keys.length ≤ 15) (hn : (l.map (·.1)).Nodup) (hll : l.length ≤ 15) : PE X (.Dict keys values pos) (tLit X.K l) :=
  pe_mono (pe_disp h hall hl h0 h15) fun τ H Q z p hp => by
    obtain ⟨σ, G, N, R, hs, hg, ht, q⟩ := z
    have s0 : Stp X.K H N G (upd H p (.dK [])) (nadd N p) G := Stp.newN hg hp
    refine tPairs_of l (hs.le s0.kp) s0.rel ht fun ds G' N' vs H' h1 s1 r1 => ?_
    obtain ⟨e1, e2, e3⟩ := s1.fr p _ upd_same (hg.free hp)
    refine ⟨e1, (l.map fun q => (Sum.inr q.1 : Key)).zip vs, zip_split l vs, by rw [List.length_zip, List.length_map]; omega, ?_⟩
    rw [mergeK_new _ [] (by simpa using zip_nodup l vs hn), List.nil_append]
    have s2 := (s0.trans s1).poke (u := .dK ((l.map fun q => (Sum.inr q.1 : Key)).zip vs)) hp e1 e2 (e3 (.inl rfl)) rfl rfl
    exact q ds G' N' _ p vs h1 s2 upd_same e2 (r1.le (Kp.write (u := .dK ((l.map fun q => (Sum.inr q.1 : Key)).zip vs)) (e3 (.inl rfl)) e1 rfl rfl))
theorem map_inr (l : List (Str × DE)) : (l.map fun q => (Sum.inr q.1 : Key)) = (l.map (·.1)).map Sum.inr := by rw [List.map_map]; rfl
theorem dv_nil {σ : Sd} {G : Gp} {R : List D → Gp → Prop} : dVals [] σ G R = R [] G := rfl
theorem dv_cons {n : Str} {t : DE} {l : List (Str × DE)} {σ : Sd} {G : Gp} {R : List D → Gp → Prop} : dVals ((n, t) :: l) σ G R = t σ G fun x G1 => dVals l σ G1 fun xs G2 => R (x :: xs) G2 := rfl
theorem lookD_hit {n : Str} {ns : List Str} {d : D} {ds : List D} : lookD (n :: ns) (d :: ds) n = some d := by simp [lookD]
theorem lookD_miss {n z : Str} {ns : List Str} {d : D} {ds : List D} (h : z ≠ n) : lookD (n :: ns) (d :: ds) z = lookD ns ds z := by simp [lookD, h]
theorem lookD_nil {z : Str} : lookD [] [] z = none := by simp [lookD]
end
end DL

set_option Elab.async false
set_option linter.all false
set_option maxRecDepth 100000
set_option maxHeartbeats 4000000
set_option autoImplicit false
namespace DL
open PySem PySem.Spec PyProof.Rows L2
/-! ### a, b, c = a list -/
end DL

set_option Elab.async false
set_option linter.all false
set_option maxRecDepth 100000
set_option maxHeartbeats 4000000
set_option autoImplicit false
namespace DL
open PySem PySem.Spec PyProof.Rows L2
/-! ### dicts of typed keys: laws -/
section
variable {α : Type} [DecidableEq α]
variable {d : α → D} (heq : ∀ a b, eqD (d a) (d b) = decide (a = b))
include heq
variable {w : World} {G : Gp} {a : Addr} {l : List (α × Int)} {k : α}
end
/-! ### bits -/
end DL

set_option Elab.async false
set_option linter.all false
set_option maxRecDepth 100000
set_option maxHeartbeats 4000000
set_option autoImplicit false
namespace DL
open PySem PySem.Spec PyProof.Rows L2
/-! ### enumerate of a tuple -/
section
variable {prog : Program} {w : World} {A : Around} {E : Value → Shared → Prop} {s : Shared}
end
section
variable {X : Cx}
theorem od_inXW {w : World} (hw : X.w = w) (hu : X.A.units + 11 < cLine) : OpD X (compareOp .In) (dInX w true) := by subst hw; exact od_inX hu
theorem sd_setW {w : World} (hw : X.w = w) (hu : X.A.units + 11 < cLine) : SetD X (dSetX w) := by subst hw; exact sd_setX hu
theorem qe_newW {w : World} {pos : Pos} (hw : X.w = w) : QE X (.Dict [] [] pos) (dNewX w) := by subst hw; exact qe_newX
end
end DL

set_option Elab.async false
set_option linter.all false
set_option maxRecDepth 100000
set_option maxHeartbeats 4000000
set_option autoImplicit false
namespace DL
open PySem PySem.Spec PyProof.Rows L2
/-! ### a list times an int -/
theorem RDs.rep {K : PySem.W.Frag} {H : Hp} {N : Ns} {ds : List D} {vs : List V} (r : RDs K H N ds vs) : ∀ n : Nat, RDs K H N (List.replicate n ds).flatten (List.replicate n vs).flatten
  | 0 => by simpa using RDs.nil
  | n + 1 => by
    rw [List.replicate_succ, List.replicate_succ, List.flatten_cons, List.flatten_cons]
    exact RDs.append r (RDs.rep r n)
variable {X : Cx}
def dRep (mk : Bool) : DR2 := fun x y G R => match x, y with
  | .ref a, .int k => (match G a with | some (.lst ds) => 0 ≤ k ∧ k < 1000 ∧ ds.length * k.toNat ≤ sizeLine ∧ newL mk (List.replicate k.toNat ds).flatten G R | _ => False)
  | _, _ => False
theorem od_rep (mk : Bool) : OpD X (binaryOp .Mult) (dRep mk) := opr_mono op_rep fun x y H Q h => by
  obtain ⟨c, d, G, N, R, r1, r2, rg, h, q⟩ := h
  unfold dRep at h
  split at h
  · rename_i a k
    obtain rfl := r1.of_ref
    obtain rfl := r2.of_int
    split at h
    · rename_i ds ea
      obtain ⟨h1, h2, h3, h4⟩ := h
      obtain ⟨_, vs, hv, r⟩ := rg a _ ea
      have hl := r.length
      exact ⟨a, k, vs, rfl, rfl, hv, by omega, by omega, by rw [← hl]; exact h3, fun p np => newL_ok rg (r.rep k.toNat) h4 q np⟩
    · exact h.elim
  · exact h.elim
theorem rep_go {mk : Bool} {a : Addr} {k : Int} {ds : List D} {G : Gp} {R : DK} (e : G a = some (.lst ds)) (h1 : 0 ≤ k) (h2 : k < 1000) (h3 : ds.length * k.toNat ≤ sizeLine) (q : newL mk (List.replicate k.toNat ds).flatten G R) : dRep mk (.ref a) (.int k) G R := by
  unfold dRep
  simp only [e]
  exact ⟨h1, h2, h3, q⟩
end DL

set_option Elab.async false
set_option linter.all false
set_option maxRecDepth 100000
set_option maxHeartbeats 4000000
set_option autoImplicit false
namespace DL
open PySem PySem.Spec PyProof.Rows L2
/-! ### >= of data -/
variable {X : Cx}
end DL

set_option Elab.async false
set_option linter.all false
set_option maxRecDepth 100000
set_option maxHeartbeats 4000000
set_option autoImplicit false
namespace DL
open PySem PySem.Spec PyProof.Rows L2
/-! ### split, int of a text, statements that are never reached -/
variable {X : Cx}
/-! ### texts taken apart -/
end DL

set_option Elab.async false
set_option linter.all false
set_option maxRecDepth 100000
set_option maxHeartbeats 4000000
set_option autoImplicit false
namespace DL
open PySem PySem.Spec PyProof.Rows L2
/-! ### a list's slice with a step -/
theorem RDs.pick {K : PySem.W.Frag} {H : Hp} {N : Ns} {ds : List D} {vs : List V} (r : RDs K H N ds vs) : ∀ is : List Nat, RDs K H N (is.filterMap (ds[·]?)) (is.filterMap (vs[·]?))
  | [] => RDs.nil
  | i :: is => by
    rw [List.filterMap_cons, List.filterMap_cons]
    have ih := RDs.pick r is
    cases e : ds[i]? with
    | some d =>
      obtain ⟨v, hv, rv⟩ := r.get e
      rw [hv]
      exact RDs.cons rv ih
    | none =>
      have : vs[i]? = none := by rw [List.getElem?_eq_none_iff] at e ⊢; rw [← r.length]; exact e
      rw [this]
      exact ih
section
variable {X : Cx} {e : Expr} {lo hi st : Option Expr} {p3 pos : Pos}
/-- xs.extend(ys), both known -/
def dExtend : D → List D → Gp → DK → Prop := fun x xs G R => match x, xs with
  | .ref a, [.ref b] => (match G a, G b with | some (.lst ds), some (.lst es) => ds.length + es.length ≤ sizeLine ∧ R .non (gup G a (.lst (ds ++ es))) | _, _ => False)
  | _, _ => False
theorem md_extend : MtD X "list.extend" dExtend := md_of (rv := rExtend) (fun pins s σ H x xs v us Q I rx rxs q => mt_extend pins s σ H x xs v us Q I rx rxs q) fun c cs G N R x xs H Q r0 r1 rg h q => by
  unfold dExtend at h
  split at h
  · rename_i a b
    obtain rfl := r0.of_ref
    obtain ⟨v, r, rfl, rv, rr⟩ := r1.of_cons
    rw [rr.of_nil, rv.of_ref]
    split at h
    · rename_i ds es ea eb
      obtain ⟨_, vs, hv, rd⟩ := rg a _ ea
      obtain ⟨_, us, hu, re⟩ := rg b _ eb
      have h1 := rd.length
      have h2 := re.length
      exact ⟨a, b, vs, us, rfl, rfl, hv, hu, by omega, q.wr rg ea hv (rd.append re) RD.non h.2⟩
    · exact h.elim
  · exact h.elim
theorem ext_go {a b : Addr} {ds es : List D} {G : Gp} {R : DK} (ea : G a = some (.lst ds)) (eb : G b = some (.lst es)) (hl : ds.length + es.length ≤ sizeLine) (k : R .non (gup G a (.lst (ds ++ es)))) : dExtend (.ref a) [.ref b] G R := by
  unfold dExtend
  simp only [ea, eb]
  exact ⟨hl, k⟩
end
end DL

set_option Elab.async false
set_option linter.all false
set_option maxRecDepth 100000
set_option maxHeartbeats 4000000
set_option autoImplicit false
namespace DL
open PySem PySem.Spec PyProof.Rows L2
/-! ### words for readings that many laws share -/
theorem lc_typ {α : Type} {g : DG} {te : DE} {σ : Sd} {gd : Gp → Prop} {G : Gp} (d f : α → D) (hg : gd G) : ∀ (xs : List α) (acc : List D), (∀ x ∈ xs, ∀ Q : DK, Q (f x) G → g (d x) σ G fun σ2 G2 => te σ2 G2 Q) → ∀ Q : List D → Gp → Prop, Q (acc ++ xs.map f) G → dLcGo g dYes te gd σ (xs.map d) acc G Q
  | [], acc, _, Q, q => ⟨hg, by simpa using q⟩
  | x :: xs, acc, h, Q, q => ⟨hg, h x List.mem_cons_self _ (lc_typ d f hg xs (acc ++ [f x]) (fun y hy => h y (List.mem_cons_of_mem _ hy)) Q (by simpa using q))⟩
theorem py_str {z : Str} : pyD (.str z) = true ↔ ∀ c ∈ cds z, c < 1114112 := by
  simp only [pyD, List.all_eq_true, decide_eq_true_eq, cds]
theorem py_of (s : String) : pyD (.str (Str.ofString s)) = true := by
  rw [py_str]
  intro c hc
  rw [Str.ofString_eq_toList] at hc
  have hc : c ∈ s.toList.map Char.toNat := by simpa [cds] using hc
  rw [List.mem_map] at hc
  obtain ⟨x, _, rfl⟩ := hc
  have := x.valid
  unfold Char.toNat
  simp only [UInt32.isValidChar, Nat.isValidChar] at this
  show x.val.toNat < 1114112
  omega
end DL

set_option Elab.async false
set_option linter.all false
set_option maxRecDepth 100000
set_option maxHeartbeats 4000000
set_option autoImplicit false
namespace DL
open PySem PySem.Spec PyProof.Rows L2
/-! ### list(range(n)), tuple(range(n)) -/
section
variable {X : Cx} {a : Expr} {ta : DE} {p p2 pos pos2 : Pos}
theorem rds_rng {K : PySem.W.Frag} {H : Hp} {N : Ns} (lo : Int) (f : Nat → Nat) : ∀ ks : List Nat, RDs K H N (ks.map fun i => D.int (lo + (i : Nat))) (ks.map fun i => V.int (lo + (i : Nat)))
  | [] => RDs.nil
  | k :: ks => RDs.cons (RD.int _) (rds_rng lo f ks)
theorem rds_rgV {K : PySem.W.Frag} {H : Hp} {N : Ns} (n : Int) : RDs K H N (rng 0 n.toNat) (rgV 0 n) := by
  unfold rng rgV
  rw [Int.sub_zero]
  exact rds_rng 0 id _
def dListRg (mk : Bool) (ta : DE) : DE := fun σ G R => ta σ G fun x G1 => match x with | .int n => 0 ≤ n ∧ n ≤ 1000000 ∧ newL mk (rng 0 n.toNat) G1 R | _ => False
theorem qe_listRg (mk : Bool) (hc : X.calm = true) (hg : Gl X "list") (hm : X.mg "list" = none) (hg2 : Gl X "range") (hm2 : X.mg "range" = none) (ha : QE X a ta)
    (na : starEach [a] X.env = (false, eval a X.env) :: starEach [] X.env := by rfl)
    (na2 : starEach [.Call (.Name "range" p2) [a] [] pos2] X.env = (false, eval (.Call (.Name "range" p2) [a] [] pos2) X.env) :: starEach [] X.env := by rfl) :
    QE X (.Call (.Name "list" p) [.Call (.Name "range" p2) [a] [] pos2] [] pos) (dListRg mk ta) :=
  pe_mono (pe_listRg hc hg hm (prg_1 hg2 hm2 ha na) na2) fun τ H Q h => by
    obtain ⟨σ, G, N, R, hs, hg, ht, q⟩ := h
    refine ⟨σ, G, N, _, hs, hg, ht, fun d G1 N1 v1 H1 h1 s1 r1 => ?_⟩
    split at h1
    · rename_i n
      rw [r1.of_int]
      exact ⟨n, rfl, RgOk.of_le (by omega) (by omega) (by omega) (by omega), fun q' np => newL_ok s1.rel (rds_rgV n) h1.2.2 (q.le s1) np⟩
    · exact h1.elim
end
/-! ### d.get(k, e) of a dict of nested keys -/
section
variable {X : Cx}
variable {o e : Expr} {es : List Expr} {to : DE} {t : DA} {name : Str} {apos cpos : Pos} {id : String} {r : D → List D → Gp → DK → Prop}
end
/-! ### dicts of typed keys and typed values -/
section
variable {α β : Type} [DecidableEq α]
def lookV (l : List (α × β)) (k : α) : Option β := (l.find? fun p => decide (p.1 = k)).map (·.2)
def encV (d : α → D) (v : β → D) (l : List (α × β)) : List (D × D) := l.map fun p => (d p.1, v p.2)
theorem lookV_cons (p : α × β) (l : List (α × β)) (k : α) : lookV (p :: l) k = if p.1 = k then some p.2 else lookV l k := by
  unfold lookV
  rw [List.find?_cons]
  by_cases h : p.1 = k
  · simp [h]
  · simp [h]
variable {d : α → D} {v : β → D} (heq : ∀ a b, eqD (d a) (d b) = decide (a = b))
include heq
theorem ixX_encV (l : List (α × β)) (k : α) : ixX (encV d v l) (d k) = l.findIdx? fun p => decide (p.1 = k) := by
  unfold ixX encV
  rw [List.findIdx?_map]
  exact congrArg (fun f => l.findIdx? f) (funext fun p => heq p.1 k)
theorem putX_encV {l : List (α × β)} {k : α} (z : β) (h : k ∉ l.map (·.1)) : putX (encV d v l) (d k) (v z) = encV d v (l ++ [(k, z)]) := by
  unfold putX
  rw [ixX_encV heq]
  have : l.findIdx? (fun p => decide (p.1 = k)) = none := by
    rw [List.findIdx?_eq_none_iff]
    intro p hp
    exact decide_eq_false fun e => h (List.mem_map.mpr ⟨p, hp, e⟩)
  rw [this]
  simp [encV]
variable {w : World} {G : Gp} {a : Addr} {l : List (α × β)} {k : α}
theorem inV_go {R : DK} {b : Bool} (e : G a = some (GO.dN w (encV d v l))) (hk : kyD (d k) = true) (hd : depD (d k) ≤ 8) (q : R (.bl ((lookV l k).isSome == b)) G) : dInX w b (d k) (.ref a) G R :=
  ⟨a, _, rfl, e, hk, hd, by
    have : (ixX (encV d v l) (d k)).isSome = (lookV l k).isSome := by
      rw [ixX_encV heq]
      unfold lookV
      rw [Option.isSome_map]
      rw [Bool.eq_iff_iff, List.findIdx?_isSome, List.find?_isSome, List.any_eq_true]
    rw [this]; exact q⟩
end
end DL

set_option Elab.async false
set_option linter.all false
set_option maxRecDepth 100000
set_option maxHeartbeats 4000000
set_option autoImplicit false
namespace DL
open PySem PySem.Spec PyProof.Rows L2
/-! ### sum, max, min of a list of ints -/
section
variable {X : Cx}
end
theorem inon_n : isNon .non = true := rfl
theorem inon_i {i : Int} : isNon (.int i) = false := rfl
theorem inon_s {i : Str} : isNon (.str i) = false := rfl
theorem inon_b {i : Bool} : isNon (.bl i) = false := rfl
theorem inon_t {i : List D} : isNon (.tup i) = false := rfl
theorem inon_l {i : List D} : isNon (.lst i) = false := rfl
theorem inon_r {i : Addr} : isNon (.ref i) = false := rfl
/-- a loop over typed things, by an invariant that tells how many are done -/
theorem for_typ {α : Type} {g : DG} {tb : DS} {gd : Gp → Prop} {E : DEnds} (d : α → D) (xs : List α) (I : Nat → Sd → Gp → Prop) (hgd : ∀ k σ G, I k σ G → gd G)
    (turn : ∀ (k : Nat) (x : α) (σ : Sd) (G : Gp), xs[k]? = some x → I k σ G → ∀ N : Sd → Gp → Prop, (∀ σ' G', I (k + 1) σ' G' → N σ' G') → g (d x) σ G fun σ2 G2 => tb { E with nx := N, ct := N, bk := E.nx } σ2 G2)
    (fin : ∀ σ G, I xs.length σ G → E.nx σ G) (σ : Sd) (G : Gp) (h : I 0 σ G) : dForGo g tb gd E (xs.map d) σ G := by
  have key : ∀ (m k : Nat) (σ : Sd) (G : Gp), xs.length - k = m → k ≤ xs.length → I k σ G → dForGo g tb gd E ((xs.drop k).map d) σ G := by
    intro m
    induction m with
    | zero =>
      intro k σ G hm hk i
      have e : k = xs.length := by omega
      subst e
      rw [List.drop_length]
      exact ⟨hgd _ _ _ i, fin σ G i⟩
    | succ m ih =>
      intro k σ G hm hk i
      have hlt : k < xs.length := by omega
      rw [List.drop_eq_getElem_cons hlt, List.map_cons]
      exact ⟨hgd _ _ _ i, turn k xs[k] σ G (List.getElem?_eq_getElem hlt) i _ fun σ' G' i' => ih (k + 1) σ' G' (by omega) (by omega) i'⟩
  have := key xs.length 0 σ G (by omega) (by omega) h
  rwa [List.drop_zero] at this
theorem for_rng {g : DG} {tb : DS} {E : DEnds} (n : Nat) (I : Nat → Sd → Gp → Prop)
    (turn : ∀ (k : Nat) (σ : Sd) (G : Gp), k < n → I k σ G → ∀ N : Sd → Gp → Prop, (∀ σ' G', I (k + 1) σ' G' → N σ' G') → g (.int (k : Nat)) σ G fun σ2 G2 => tb { E with nx := N, ct := N, bk := E.nx } σ2 G2)
    (fin : ∀ σ G, I n σ G → E.nx σ G) (σ : Sd) (G : Gp) (h : I 0 σ G) : dForGo g tb (fun _ => True) E (rng 0 n) σ G := by
  have e : rng 0 n = (List.range n).map fun i => D.int (i : Nat) := by unfold rng; exact List.map_congr_left fun i _ => by rw [Int.zero_add]
  rw [e]
  refine for_typ (fun i : Nat => D.int (i : Nat)) (List.range n) I (fun _ _ _ _ => trivial) (fun k x σ G hx i N hN => ?_) (fun σ G i => fin σ G (by rw [List.length_range] at i; exact i)) σ G h
  have hk := (List.getElem?_eq_some_iff.mp hx).1
  rw [List.length_range] at hk
  rw [List.getElem?_range hk] at hx
  cases hx
  exact turn k σ G hk i N hN
theorem setN_go {p : Addr} {ds : List D} {k : Nat} {v : D} {G : Gp} {R : Gp → Prop} (e : G p = some (.lst ds)) (h : k < ds.length) (q : R (gup G p (.lst (ds.set k v)))) : dSetI (.ref p) (.int (k : Nat)) v G R := by
  have hix : ixN ds.length (k : Nat) = some k := by unfold ixN; rw [if_pos (by omega), if_pos (by omega)]; simp
  unfold dSetI
  simp only [e, hix]
  exact q
theorem rt_sub {R : DK} {d : D} {G G0 : Gp} (s : Sub G0 G) (h : R d G0) : Rt R d G := ret_sub s h
theorem Sub.put {G G' : Gp} {p : Addr} {o : GO} (s : Sub G G') (h : G p = none) : Sub G (gup G' p o) := fun a u e => by rw [gup_ne (gne e h)]; exact s a u e
theorem pyDs_strs : ∀ {zs : List Str}, (∀ y ∈ zs, pyD (.str y) = true) → pyDs (zs.map .str) = true
  | [], _ => rfl
  | z :: zs, h => by
    simp only [List.map_cons, pyDs, Bool.and_eq_true]
    exact ⟨h z List.mem_cons_self, pyDs_strs fun y hy => h y (List.mem_cons_of_mem _ hy)⟩
theorem any_strs (z : Str) (zs : List Str) : ((zs.map D.str).any fun y => eqD y (.str z)) = decide (z ∈ zs) := by
  rw [Bool.eq_iff_iff, List.any_eq_true, decide_eq_true_eq]
  constructor
  · rintro ⟨y, hy, h⟩
    obtain ⟨x, hx, rfl⟩ := List.mem_map.mp hy
    have : x = z := by simpa [eqD] using h
    exact this ▸ hx
  · intro h
    exact ⟨.str z, List.mem_map.mpr ⟨z, h, rfl⟩, by simp [eqD]⟩
theorem inE_lstS {f : Bool → Bool} {z : Str} {zs : List Str} {G : Gp} {R : DK} (hz : pyD (.str z) = true) (hs : ∀ y ∈ zs, pyD (.str y) = true) (k : R (.bl (f (decide (z ∈ zs)))) G) : dInE f (.str z) (.lst (zs.map .str)) G R :=
  ⟨hz, pyDs_strs hs, by simp [depD], by rw [any_strs]; exact k⟩
end DL

set_option Elab.async false
set_option linter.all false
set_option maxRecDepth 100000
set_option maxHeartbeats 4000000
set_option autoImplicit false
namespace DL
open PySem PySem.Spec PyProof.Rows L2
/-! ### lists that are known, added -/
end DL

set_option Elab.async false
set_option linter.all false
set_option maxRecDepth 100000
set_option maxHeartbeats 4000000
set_option autoImplicit false
namespace DL
open PySem PySem.Spec PyProof.Rows L2
theorem rt_keep {R : DK} {d : D} {G : Gp} {s p : Addr} {o u : GO} (h : s ≠ p) (hp : G p = none) (k : R d (gup G s o)) : Rt R d (gup (gup G p u) s o) := ret_sub (sub_keep h hp) k
/-! ### {..}.get(e, f) -/
section
variable {X : Cx} {pos : Pos} {keys : List (Option Expr)} {values : List Expr}
def dLitGet2 (l : List (Str × DE)) (ti tj : DE) : DE := fun σ G R => dVals l σ G fun ds G1 => ti σ G1 fun y G2 => tj σ G2 fun w G3 => match y with | .str z => R ((lookD (l.map (·.1)) ds z).getD w) G3 | _ => False
theorem qe_litGet2 {l : List (Str × DE)} {i j : Expr} {ti tj : DE} {apos pos2 : Pos} (hu : X.A.units + 1 < cLine) (h : PPs X pos keys values (trsOf X.K l)) (hi : QE X i ti) (hj : QE X j tj) (m : M2 X (.Dict keys values pos) "get" apos i j pos2) (hall : keys.all (·.isSome) = true := by rfl) (hl : keys.length = values.length := by rfl) (h0 : keys ≠ [] := by decide) (h15 : keys.length ≤ 15 := by decide)
    (hn : (l.map (·.1)).Nodup := by decide +kernel) (hll : l.length ≤ 15 := by decide) : QE X (.Call (.Attribute (.Dict keys values pos) "get" apos) [i, j] [] pos2) (dLitGet2 l ti tj) :=
  pe_mono (pe_dget2 hu (pe_lit h hall hl h0 h15 hn hll) hi hj m) fun τ H Q z => by
    obtain ⟨σ, G, N, R, hs, hg, ht, q⟩ := z
    refine ⟨σ, G, N, _, hs, hg, ht, fun ds G1 N1 H1 p vs h1 s1 e1 e2 r1 => ?_⟩
    refine ⟨p, rfl, .inl ⟨_, .inl e1⟩, σ, G1, N1, _, hs.le s1.kp, s1.rel, h1, fun y G2 N2 v H2 h2 s2 r2 => ?_⟩
    have s12 := s1.trans s2
    refine ⟨σ, G2, N2, _, hs.le s12.kp, s2.rel, h2, fun w G3 N3 u H3 h3 s3 r3 => ?_⟩
    split at h3
    · rename_i y z
      obtain rfl := r2.of_str
      obtain ⟨f1, f2, _⟩ := (s2.trans s3).fr p _ e1 e2
      refine ⟨_, .inl ⟨_, .inr z, .inl f1, rfl, rfl⟩, ?_⟩
      rw [map_inr]
      have r1' := (r1.le s2.kp).le s3.kp
      cases e : lookD (l.map (·.1)) ds z with
      | some d =>
        obtain ⟨v, hv, rv⟩ := (lookD_val r1').1 d e
        rw [hv]
        rw [e] at h3
        exact q d G3 N3 v H3 h3 (s12.trans s3) rv
      | none =>
        rw [(lookD_val r1').2 e]
        rw [e] at h3
        exact q _ G3 N3 _ H3 h3 (s12.trans s3) r3
    · exact h3.elim
theorem x_litGet2 {l : List (Str × DE)} {ti tj : DE} {σ : Sd} {G : Gp} {R : DK} : dLitGet2 l ti tj σ G R = dVals l σ G fun ds G1 => ti σ G1 fun y G2 => tj σ G2 fun w G3 => match y with | .str z => R ((lookD (l.map (·.1)) ds z).getD w) G3 | _ => False := rfl
end
end DL

set_option Elab.async false
set_option linter.all false
set_option maxRecDepth 100000
set_option maxHeartbeats 4000000
set_option autoImplicit false
namespace DL
open PySem PySem.Spec PyProof.Rows L2
/-! ### a, b = x, y and a, b, c = x, y, z -/
section
variable {X : Cx} {pos : Pos}
def dPar (is : List Nat) (t : DA) : DS := fun E σ G => t σ G fun ds G1 => ds.length = is.length ∧ E.nx (setAll σ is ds) G1
theorem qs_par3 {i j l : Nat} {x y z : Str} {a b c : Expr} {ta : DA} {px py pz pt : Pos} {kt k2 pt2} (hc : X.calm = true) (hN : X.N.Nodup) (hi : X.N[i]? = some x) (hj : X.N[j]? = some y) (hl : X.N[l]? = some z) (hij : i ≠ j) (hil : i ≠ l) (hjl : j ≠ l)
    (hx : X.env.scope.names.lookup x = some .local) (hy : X.env.scope.names.lookup y = some .local) (hz : X.env.scope.names.lookup z = some .local) (ha : QA X [a, b, c] ta)
    (hw : swappedStores [.Tuple [.Name x px, .Name y py, .Name z pz] kt pt] (.Tuple [a, b, c] k2 pt2) X.env = pure (some [x, y, z]) := by rfl)
    (hs : swapsWithSole [.Tuple [.Name x px, .Name y py, .Name z pz] kt pt] (.Tuple [a, b, c] k2 pt2) pos.line X.env = pure false := by rfl) :
    QS X (.Assign [.Tuple [.Name x px, .Name y py, .Name z pz] kt pt] (.Tuple [a, b, c] k2 pt2) pos) (dPar [i, j, l] ta) := ps_mono (ps_par3 hc hN hi hj hl hij hil hjl hx hy hz ha hw hs) fun D τ H h => by
  obtain ⟨σ, G, N, E, hs, hg, ht, q⟩ := h
  refine ⟨σ, G, N, _, hs, hg, ht, fun ds G' N' vs H' h s' r => ?_⟩
  obtain ⟨hl, h⟩ := h
  match ds, hl with
  | [d1, d2, d3], _ =>
    obtain ⟨v1, r1, rfl, e1, r⟩ := r.of_cons
    obtain ⟨v2, r2, rfl, e2, r⟩ := r.of_cons
    obtain ⟨v3, r3, rfl, e3, r⟩ := r.of_cons
    rw [r.of_nil]
    exact ⟨v1, v2, v3, rfl, q.nx _ _ _ _ _ h s' ((((hs.le s'.kp).set e1 i).set e2 j).set e3 l)⟩
theorem x_par {is : List Nat} {t : DA} {E : DEnds} {σ : Sd} {G : Gp} : dPar is t E σ G = t σ G fun ds G1 => ds.length = is.length ∧ E.nx (setAll σ is ds) G1 := rfl
end
end DL

set_option Elab.async false
set_option linter.all false
set_option maxRecDepth 100000
set_option maxHeartbeats 4000000
set_option autoImplicit false
namespace DL
open PySem PySem.Spec PyProof.Rows L2
/-! ### all that was known is known still, but for one thing -/
def Ext (s : Addr) (G G' : Gp) : Prop := ∀ a o, a ≠ s → G a = some o → G' a = some o
section
variable {s p : Addr} {G G' : Gp} {o u : GO} {R : DK} {d : D}
theorem Ext.refl (s : Addr) (G : Gp) : Ext s G G := fun _ _ _ h => h
theorem Ext.self (h : Ext s G G') : Ext s G (gup G' s o) := fun a u n e => by rw [gup_ne n]; exact h a u n e
theorem Ext.put (h : Ext s G G') (hp : G p = none) : Ext s G (gup G' p o) := fun a u n e => by rw [gup_ne (gne e hp)]; exact h a u n e
theorem Ext.new (h : Ext s G G') (hp : G' p = none) (hs : s ≠ p) : Ext s G (gup G' p o) := fun a u n e => by
  have := h a u n e
  rw [gup_ne (fun z => by rw [z, hp] at this; cases this)]; exact this
theorem Ext.sub (h : Ext s G G') (e : G' s = some o) : Sub (gup G s o) G' := fun a u ea => by
  by_cases z : a = s
  · subst z; rw [gup_same] at ea; cases ea; exact e
  · rw [gup_ne z] at ea; exact h a u z ea
theorem Ext.nn (h : Ext s G G') (n : p ≠ s) (hp : G' p = none) : G p = none := by
  cases e : G p with
  | none => rfl
  | some u => rw [h p u n e] at hp; cases hp
theorem rt_ext (h : Ext s G G') (e : G' s = some o) (k : R d (gup G s o)) : Rt R d G' := ret_sub (h.sub e) k
theorem fr_ne (e : G' s = some o) (hp : G' p = none) : s ≠ p := fun z => by subst z; rw [e] at hp; cases hp
end
theorem for_lst {α : Type} {g : DG} {tb : DS} {E : DEnds} (d : α → D) (xs : List α) (I : Nat → Sd → Gp → Prop)
    (turn : ∀ (k : Nat) (x : α) (σ : Sd) (G : Gp), xs[k]? = some x → I k σ G → ∀ N : Sd → Gp → Prop, (∀ σ' G', I (k + 1) σ' G' → N σ' G') → g (d x) σ G fun σ2 G2 => tb { E with nx := N, ct := N, bk := E.nx } σ2 G2)
    (fin : ∀ σ G, I xs.length σ G → E.nx σ G) (σ : Sd) (G : Gp) (h : I 0 σ G) : dForGo g tb (fun _ => True) E (xs.map d) σ G := for_typ d xs I (fun _ _ _ _ => trivial) turn fin σ G h
end DL

set_option Elab.async false
set_option linter.all false
set_option maxRecDepth 100000
set_option maxHeartbeats 4000000
set_option autoImplicit false
namespace DL
open PySem PySem.Spec PyProof.Rows L2
/-! ### loops over enumerate, by an invariant that tells how many are done -/
end DL

set_option Elab.async false
set_option linter.all false
set_option maxRecDepth 100000
set_option maxHeartbeats 4000000
set_option autoImplicit false
namespace DL
open PySem PySem.Spec PyProof.Rows L2
/-! ### is, is not of truths -/
section
variable {X : Cx}
def dIsB : DR2 := fun x y G R => ∃ a b, x = .bl a ∧ y = .bl b ∧ R (.bl (decide (a = b))) G
def dNotB : DR2 := fun x y G R => ∃ a b, x = .bl a ∧ y = .bl b ∧ R (.bl (!decide (a = b))) G
theorem od_notB : OpD X (compareOp .IsNot) dNotB := opr_mono op_notBl fun x y H Q h => by
  obtain ⟨c, d, G, N, R, r1, r2, rg, ⟨a, b, rfl, rfl, h⟩, q⟩ := h
  exact ⟨a, b, r1.of_bl, r2.of_bl, q.at rg h (RD.bl _)⟩
theorem notB_go {a b : Bool} {G : Gp} {R : DK} (k : R (.bl (!decide (a = b))) G) : dNotB (.bl a) (.bl b) G R := ⟨a, b, rfl, rfl, k⟩
theorem isB_go {a b : Bool} {G : Gp} {R : DK} (k : R (.bl (decide (a = b))) G) : dIsB (.bl a) (.bl b) G R := ⟨a, b, rfl, rfl, k⟩
end
theorem cut_take {α : Type} (l : List α) (a : Nat) : cutL l none (some (a : Int)) = l.take a := by
  unfold cutL
  rw [HT.sIx_nat]
  simp only [HT.sIx, List.drop_zero, Nat.sub_zero]
  by_cases h : a ≤ l.length
  · rw [Nat.min_eq_left h]
  · rw [Nat.min_eq_right (by omega), List.take_of_length_le (Nat.le_refl _), List.take_of_length_le (by omega)]
end DL

set_option Elab.async false
set_option linter.all false
set_option maxRecDepth 100000
set_option maxHeartbeats 4000000
set_option autoImplicit false
namespace DL
open PySem PySem.Spec PyProof.Rows L2
section
variable {X : Cx}
/-! ### max of three, max with a default -/
end
end DL

set_option Elab.async false
set_option linter.all false
set_option maxRecDepth 100000
set_option maxHeartbeats 4000000
set_option autoImplicit false
namespace DL
open PySem PySem.Spec PyProof.Rows L2
/-! ### instances: attributes, methods, making -/
section
variable {X : Cx} {C : Addr} {f m : Str} {e o value : Expr} {es : List Expr} {pos pos' apos p : Pos} {ta tv : DE} {t : DA} {x : Str} {k : Nat} {g : Addr} {fd : FuncData} {ps : List Str} {sp : DSp}
end
end DL

set_option Elab.async false
set_option linter.all false
set_option maxRecDepth 100000
set_option maxHeartbeats 4000000
set_option autoImplicit false
namespace DL
open PySem PySem.Spec PyProof.Rows L2
/-! ### list(it): what an iterator gives, laid in a new list -/
/-- an iterator at I that gives n things: fp its own objects; En how it stands at each turn; Ok what stays true; Yd what a turn does -/
structure Pull (X : Cx) (fp : List Addr) (I : Addr) (T : String) (n : Nat) (En : Nat → Heap → Prop) (Ok : Hp → Prop) (Yd : Nat → Hp → V → Hp → Prop) : Prop where
  mem : I ∈ fp
  type : ∀ i (s : Shared), En i s.heap → s.TypeIs (.ref I) T
  keep : ∀ i h h', En i h → (∀ b ∈ fp, ∀ o, h.get? b = some o → h'.get? b = some o) → (∀ b o, b ∉ fp → h.get? b = some o → ∃ o', h'.get? b = some o') → En i h'
  item : ∀ (A : Around) (i : Nat) (pins : List (Addr × Obj)) (s : Shared) (σ : L2.St) (H : Hp) (E : Value → Shared → Prop), A.handled = none → i < n → Inv X pins σ H s → (∀ b ∈ fp, FpOk X pins H b) → En i s.heap → Ok H →
    wpAny (model X.prog X.w) A (pyNext (.ref I)) (fun r s1 => ∃ u x H', r = some u ∧ Inv X pins σ H' s1 ∧ RelV x u ∧ Yd i H x H' ∧ Ok H' ∧ En (i + 1) s1.heap ∧ ∀ b ∈ fp, H' b = none) E s
  done : ∀ (A : Around) (pins : List (Addr × Obj)) (s : Shared) (σ : L2.St) (H : Hp) (E : Value → Shared → Prop), A.handled = none → Inv X pins σ H s → (∀ b ∈ fp, FpOk X pins H b) → En n s.heap → Ok H →
    wpAny (model X.prog X.w) A (pyNext (.ref I)) (fun r s1 => r = none ∧ Inv X pins σ H s1) E s
  self : ∀ (A : Around) (s : Shared) (Q : Value → Shared → Prop) (E : Value → Shared → Prop), En 0 s.heap → Q (.ref I) s → wpAny (model X.prog X.w) A (pyIter (.ref I)) Q E s
  nolen : typeLookup (.type T) "__len__" = pure none
  nohint : typeLookup (.type T) "__length_hint__" = pure none
  notl : (Value.type T == Value.type "list") = false
  nott : (Value.type T == Value.type "tuple") = false
def Chain (Yd : Nat → Hp → V → Hp → Prop) (H : Hp) : Nat → List V → Hp → Prop
  | 0, ks, H' => ks = [] ∧ H' = H
  | i + 1, ks, H' => ∃ ks0 H0 x, Chain Yd H i ks0 H0 ∧ Yd i H0 x H' ∧ ks = ks0 ++ [x]
section
variable {X : Cx} {pins : List (Addr × Obj)} {σ : L2.St} {H : Hp}
theorem chain_len {Yd : Nat → Hp → V → Hp → Prop} : ∀ {i : Nat} {ks : List V} {H' : Hp}, Chain Yd H i ks H' → ks.length = i
  | 0, _, _, h => by rw [h.1]; rfl
  | i + 1, _, _, h => by
    obtain ⟨ks0, H0, x, h1, _, rfl⟩ := h
    rw [List.length_append, chain_len h1]; rfl
/-- an address of ours -/
structure Yg (X : Cx) (pins : List (Addr × Obj)) (b : Addr) : Prop where
  l : b ≠ X.env.locals
  f : b ∉ X.fs
  y : b ∈ X.ex ∨ X.s_0.heap.objs.size ≤ b
  c : ∀ x c, X.env.cells.lookup x = some c → c ≠ b
  p : ∀ p ∈ X.pn ++ pins, p.1 ≠ b
theorem Yg.fp {b : Addr} {H : Hp} (h : Yg X pins b) (n : H b = none) : FpOk X pins H b := ⟨n, h.l, h.f, h.y, h.c, h.p⟩
theorem yg_of {b : Addr} {H : Hp} (h : FpOk X pins H b) : Yg X pins b := ⟨h.2.1, h.2.2.1, h.2.2.2.1, h.2.2.2.2.1, h.2.2.2.2.2⟩
theorem Yg.cons {b S : Addr} {o : Obj} (h : Yg X pins b) (n : S ≠ b) : Yg X ((S, o) :: pins) b := ⟨h.l, h.f, h.y, h.c, fun p hp => by
  rcases List.mem_append.mp hp with hp | hp
  · exact h.p p (List.mem_append_left _ hp)
  · rcases List.mem_cons.mp hp with rfl | hp
    · exact n
    · exact h.p p (List.mem_append_right _ hp)⟩
theorem pull_loop {fp : List Addr} {I S : Addr} {T : String} {n : Nat} {En : Nat → Heap → Prop} {Ok : Hp → Prop} {Yd : Nat → Hp → V → Hp → Prop} (W : Pull X fp I T n En Ok Yd) {A : Around} (hh : A.in1.handled = none) (hn : n ≤ sizeLine) (hSf : S ∉ fp) (yS : Yg X pins S) (yf : ∀ b ∈ fp, Yg X pins b) {res : Value} {R : Result → Shared → Prop}
    (fin : ∀ s' H' ks acc c, Inv X pins σ H' s' → Chain Yd H n ks H' → Vals ks acc.toList → s'.heap.get? S = some (seqObj "list" acc c) → H' S = none → R (.ok (.ret res)) s') :
    ∀ (k i : Nat) (s : Shared) (H' : Hp) (ks : List V) (acc : Array Value) (c : Nat), n - i = k → i ≤ n → Inv X ((S, seqObj "list" acc c) :: pins) σ H' s → Chain Yd H i ks H' → Vals ks acc.toList → En i s.heap → Ok H' → (∀ b ∈ fp, H' b = none) → codeAny (model X.prog X.w) A (.builtin "list.extend.loop" ⟨[.ref S, .ref I, res], []⟩) R s := by
  intro k
  induction k with
  | zero =>
    intro i s H' ks acc c hk hi J ch rv en ok fr
    obtain rfl : i = n := by omega
    refine codeAny_builtin F.entry_extend_loop ?_
    rw [Around.under_plainId F.plain_extend_loop _]
    refine wpAny_bind (wpAny_mono (W.done A.in1 _ s σ H' _ hh J (fun b hb => ((yf b hb).cons (S := S) (fun z => hSf (z.symm ▸ hb))).fp (fr b hb)) en ok) (fun r s1 h => ?_) fun _ _ x => x)
    obtain ⟨rfl, J1⟩ := h
    have pS := J1.pin (S, seqObj "list" acc c) (List.mem_append_right _ (.head _))
    exact wpAny_pure (fin s1 H' ks acc c (J1.pins_of fun p hp => J1.pin p (List.mem_append_right _ (.tail _ hp))) ch rv pS.1 pS.2.1)
  | succ k ih =>
    intro i s H' ks acc c hk hi J ch rv en ok fr
    have hlt : i < n := by omega
    refine codeAny_builtin F.entry_extend_loop ?_
    rw [Around.under_plainId F.plain_extend_loop _]
    refine wpAny_bind (wpAny_mono (W.item A.in1 i _ s σ H' _ hh hlt J (fun b hb => ((yf b hb).cons (S := S) (fun z => hSf (z.symm ▸ hb))).fp (fr b hb)) en ok) (fun r s1 h => ?_) fun _ _ x => x)
    obtain ⟨u, x, H2, rfl, J1, rx, yd, ok2, en2, fr2⟩ := h
    have pS := J1.pin (S, seqObj "list" acc c) (List.mem_append_right _ (.head _))
    have hsz : acc.size = i := by
      have h1 : ks.length = acc.toList.length := rv.length
      have h2 : acc.toList.length = acc.size := Array.length_toList
      rw [← h2, ← h1]; exact chain_len ch
    have sb := Heap.SameBut.update s1.heap S (Obj.mapSeq (·.push u))
    obtain ⟨c2, hc2⟩ : ∃ c2, (s1.heap.update S (Obj.mapSeq (·.push u))).get? S = some (seqObj "list" (acc.push u) c2) := ⟨_, get?_update_seq pS.1 (·.push u)⟩
    refine wpAny_bind (wpAny_updateSeq pS.1 rfl (wpAny_pure ⟨plainId_quiet F.plain_extend_loop _, ih (i + 1) _ H2 (ks ++ [x]) (acc.push u) c2 (by omega) hlt ?_ ⟨ks, H', x, ch, yd, rfl⟩ (by rw [Array.toList_push]; exact rv.append (.cons rx .nil)) (W.keep _ _ _ en2 (fun b hb o q => (sb.2 b (fun z => hSf (z ▸ hb))).trans q) fun b o _ q => ?_) ok2 fr2⟩) (by omega) (by show (acc.push u).size ≤ sizeLine + 1; rw [Array.size_push]; omega))
    · have J2 : Inv X pins σ H2 s1 := J1.pins_of fun p hp => J1.pin p (List.mem_append_right _ (.tail _ hp))
      have J3 : Inv X pins σ H2 { s1 with heap := s1.heap.update S (Obj.mapSeq (·.push u)) } := J2.turned (t' := s1.toks) (it := S) (fun b o hb q => (sb.2 b hb).trans q) pS.2.1 yS.l yS.y yS.c yS.p
      refine J3.pins_of fun p hp => ?_
      rcases List.mem_cons.mp hp with rfl | hp
      · exact ⟨hc2, pS.2.1, yS.l, yS.f, fun v hv => by cases hv⟩
      · exact J3.pin p (List.mem_append_right _ hp)
    · by_cases z : b = S
      · subst z; exact ⟨_, hc2⟩
      · exact ⟨o, (sb.2 b z).trans q⟩
/-- list(it) -/
theorem call_list_pull {fp : List Addr} {I : Addr} {T : String} {n : Nat} {En : Nat → Heap → Prop} {Ok : Hp → Prop} {Yd : Nat → Hp → V → Hp → Prop} {s : Shared} {Q : VK} {E : Value → Shared → Prop} (W : Pull X fp I T n En Ok Yd) (hc : X.calm = true) (J : Inv X pins σ H s) (hf : ∀ b ∈ fp, FpOk X pins H b) (hfl : ∀ b ∈ fp, b < s.heap.objs.size) (en : En 0 s.heap) (ok : Ok H) (hn : n ≤ sizeLine)
    (q : ∀ p ks H', Chain Yd H n ks H' → H' p = none → Q (.ref p) (upd H' p (.lst ks))) : wpAny (model X.prog X.w) X.A (call (.type "list") [.ref I]) (EP X pins σ Q) E s := by
  have hh : X.A.handled = none := J.ok.hd hc
  have hSf : s.heap.objs.size ∉ fp := fun z => Nat.lt_irrefl _ (hfl _ z)
  have yS : Yg X pins s.heap.objs.size := yg_of (J.fpOk (H' := H) (Nat.le_refl _) (J.hok.fresh (Nat.le_refl _)))
  have HS : H s.heap.objs.size = none := J.hok.fresh (Nat.le_refl _)
  refine callType_codes (Q₁ := fun obj s₁ => obj = .ref s.heap.objs.size ∧ s₁ = { s with heap := s.heap.push (seqObj "list" #[] 0) }) F.called_list (F.typeCall_list_1 _) F.entry_list_init (code_list_new _ ⟨rfl, rfl⟩) fun obj s₁ h₁ => ?_
  obtain ⟨rfl, rfl⟩ := h₁
  have hS : (s.heap.push (seqObj "list" #[] 0)).get? s.heap.objs.size = some (seqObj "list" #[] 0) := Heap.get?_push_size _ rfl
  refine ⟨⟨_, hS, rfl⟩, F.args_list_init_2 _ _, ?_⟩
  have J0 : Inv X pins σ H { s with heap := s.heap.push (seqObj "list" #[] 0) } := J.kept (t' := s.toks) fun b o e => Heap.get?_push_of_some _ e
  have en0 : En 0 (s.heap.push (seqObj "list" #[] 0)) := W.keep 0 _ _ en (fun b _ o e => Heap.get?_push_of_some _ e) fun b o _ e => ⟨o, Heap.get?_push_of_some _ e⟩
  /- S is changed: all else stays -/
  have step : ∀ (h : Heap) (tk c : Nat) (g : Array Value → Array Value), Inv X pins σ H { s with heap := h, toks := tk } → En 0 h → h.get? s.heap.objs.size = some (seqObj "list" #[] c) → g #[] = #[] →
      ∃ c', (h.update s.heap.objs.size (Obj.mapSeq g)).get? s.heap.objs.size = some (seqObj "list" #[] c') ∧ Inv X pins σ H { s with heap := h.update s.heap.objs.size (Obj.mapSeq g), toks := tk } ∧ En 0 (h.update s.heap.objs.size (Obj.mapSeq g)) := by
    intro h tk c g Jh enh e hg
    have sb := Heap.SameBut.update h s.heap.objs.size (Obj.mapSeq g)
    have e2 := get?_update_seq e g
    rw [hg] at e2
    refine ⟨_, e2, Inv.turned (s := { s with heap := h, toks := tk }) (t' := tk) Jh (fun b o hb r => (sb.2 b hb).trans r) HS yS.l yS.y yS.c yS.p, W.keep 0 _ _ enh (fun b hb o r => (sb.2 b (fun z => hSf (z ▸ hb))).trans r) fun b o _ r => ?_⟩
    by_cases z : b = s.heap.objs.size
    · subst z; exact ⟨_, e2⟩
    · exact ⟨o, (sb.2 b z).trans r⟩
  obtain ⟨c1, e1, J1, en1⟩ := step _ s.toks 0 (fun _ => #[]) J0 en0 hS rfl
  show wpAny _ _ (do let old ← Builtin.List.listItems (.ref s.heap.objs.size); Builtin.List.listUpdate (.ref s.heap.objs.size) (fun _ => #[]); letGo old.toList.reverse; Builtin.List.listExtendWith (.ref s.heap.objs.size) (.ref I) .none) _ _ _
  refine wpAny_bind (listItems_at hS rfl ?_); refine wpAny_bind (listUpdate_at hS rfl ?_ (Nat.zero_le _) (Nat.zero_le _)); refine wpAny_bind (wpAny_letGo ?_)
  unfold Builtin.List.listExtendWith
  refine wpAny_bind (wpAny_typeOf (W.type 0 _ en1) ?_)
  have hI : I ≠ s.heap.objs.size := fun z => hSf (z ▸ W.mem)
  have same : Builtin.List.listSameRef (.ref s.heap.objs.size) (.ref I) = false := by simp [Builtin.List.listSameRef, Ne.symm hI]
  simp only [same, W.notl, W.nott, Bool.or_false, Bool.false_eq_true, if_false]
  refine wpAny_bind (W.self _ _ _ _ en1 ?_); refine wpAny_bind (wpAny_holding ?_)
  unfold Builtin.List.listLengthHint; refine wpAny_bind (wpAny_specialOf (W.type 0 _ en1) W.nolen ?_)
  show wpAny _ _ (specialOf (Value.ref I) (Str.ofString "__length_hint__") >>= _) _ _ _
  refine wpAny_bind (wpAny_specialOf (W.type 0 _ en1) W.nohint (wpAny_pure ?_))
  show wpAny _ _ (rule "list.extend.makes-room" >>= fun _ => Builtin.List.listTouch (.ref s.heap.objs.size) >>= fun _ => again (.builtin "list.extend.loop" ⟨[.ref s.heap.objs.size, .ref I, .none], []⟩)) _ _ _
  refine wpAny_bind (wpAny_rule (wpAny_bind ?_))
  show wpAny _ _ (updateSeq s.heap.objs.size (·.push .none) >>= fun _ => updateSeq s.heap.objs.size (·.pop)) _ _ _
  refine wpAny_bind (wpAny_updateSeq e1 rfl ?_ (Nat.zero_le _) (by show (#[Value.none]).size ≤ sizeLine + 1; rw [sizeLine_eq]; simp))
  obtain ⟨c2, e2⟩ : ∃ c2, (((s.heap.push (seqObj "list" #[] 0)).update s.heap.objs.size (Obj.mapSeq fun _ => #[])).update s.heap.objs.size (Obj.mapSeq (·.push Value.none))).get? s.heap.objs.size = some (seqObj "list" #[Value.none] c2) := ⟨_, get?_update_seq e1 (·.push Value.none)⟩
  refine wpAny_updateSeq e2 rfl ?_ (by show (#[Value.none]).size ≤ sizeLine; rw [sizeLine_eq]; simp) (by show (#[Value.none].pop).size ≤ sizeLine + 1; simp)
  obtain ⟨c3, e3⟩ : ∃ c3, ((((s.heap.push (seqObj "list" #[] 0)).update s.heap.objs.size (Obj.mapSeq fun _ => #[])).update s.heap.objs.size (Obj.mapSeq (·.push Value.none))).update s.heap.objs.size (Obj.mapSeq (·.pop))).get? s.heap.objs.size = some (seqObj "list" #[] c3) := ⟨_, get?_update_seq e2 (·.pop)⟩
  have sb2 := Heap.SameBut.update ((s.heap.push (seqObj "list" #[] 0)).update s.heap.objs.size (Obj.mapSeq fun _ => #[])) s.heap.objs.size (Obj.mapSeq (·.push Value.none))
  have sb3 := Heap.SameBut.update (((s.heap.push (seqObj "list" #[] 0)).update s.heap.objs.size (Obj.mapSeq fun _ => #[])).update s.heap.objs.size (Obj.mapSeq (·.push Value.none))) s.heap.objs.size (Obj.mapSeq (·.pop))
  have k3 : ∀ b o, b ≠ s.heap.objs.size → ((s.heap.push (seqObj "list" #[] 0)).update s.heap.objs.size (Obj.mapSeq fun _ => #[])).get? b = some o → ((((s.heap.push (seqObj "list" #[] 0)).update s.heap.objs.size (Obj.mapSeq fun _ => #[])).update s.heap.objs.size (Obj.mapSeq (·.push Value.none))).update s.heap.objs.size (Obj.mapSeq (·.pop))).get? b = some o := fun b o hb r => (sb3.2 b hb).trans ((sb2.2 b hb).trans r)
  dsimp only
  generalize (((s.heap.push (seqObj "list" #[] 0)).update s.heap.objs.size (Obj.mapSeq fun _ => #[])).update s.heap.objs.size (Obj.mapSeq (·.push Value.none))).update s.heap.objs.size (Obj.mapSeq (·.pop)) = h3 at e3 k3 ⊢
  have J3 : Inv X pins σ H { s with heap := h3 } := Inv.turned (s := { s with heap := (s.heap.push (seqObj "list" #[] 0)).update s.heap.objs.size (Obj.mapSeq fun _ => #[]) }) (t' := s.toks) J1 k3 HS yS.l yS.y yS.c yS.p
  have en3 : En 0 h3 := W.keep 0 _ _ en1 (fun b hb o r => k3 b o (fun z => hSf (z ▸ hb)) r) fun b o _ r => by
    by_cases z : b = s.heap.objs.size
    · subst z; exact ⟨_, e3⟩
    · exact ⟨o, k3 b o z r⟩
  refine wpAny_pure ⟨plainId_quiet F.plain_extend_loop _, pull_loop (pins := pins) (σ := σ) (H := H) (A := X.A.in1) W hh hn hSf yS (fun b hb => yg_of (hf b hb)) (fun s' H' ks acc c J' ch rv eS HS' => ?_) n 0 { s with heap := h3 } H [] #[] c3 rfl (Nat.zero_le _) ?_ ⟨rfl, rfl⟩ .nil en3 ok fun b hb => (hf b hb).1⟩
  · have hlen : ks.length ≤ sizeLine := by rw [chain_len ch]; exact hn
    exact ⟨rfl, .ref s.heap.objs.size, upd H' s.heap.objs.size (.lst ks), inv_know J' HS' yS.l (Nat.le_trans J.sz (Nat.le_refl _)) yS.c yS.p ⟨hlen, acc.toList, c, rv, by rw [Array.toArray_toList]; exact eS⟩, rfl, q _ ks H' ch HS'⟩
  · refine J3.pins_of fun p hp => ?_
    rcases List.mem_cons.mp hp with rfl | hp
    · exact ⟨e3, HS, yS.l, yS.f, fun v hv => by cases hv⟩
    · exact J3.pin p (List.mem_append_right _ hp)
/-! ### enumerate of a list -/
theorem sqL_new {K : PySem.W.Frag} {H : Hp} {a T : Addr} {xs : List V} {o : HO} (h : SqL K H a xs) (n : H T = none) : SqL K (upd H T o) a xs := by
  rcases h with (h | ⟨ob, h⟩) | h
  · exact .inl (.inl (by rw [upd_ne (ne_of_none h n)]; exact h))
  · exact .inl (.inr ⟨ob, by rw [upd_ne (ne_of_none h n)]; exact h⟩)
  · exact .inr h
variable {a : Expr} {p p2 pos pos2 : Pos}
end
end DL

set_option Elab.async false
set_option linter.all false
set_option maxRecDepth 100000
set_option maxHeartbeats 4000000
set_option autoImplicit false
namespace DL
open PySem PySem.Spec PyProof.Rows L2
/-! ### dicts with texts and numbers as keys, kept -/
section
variable {X : Cx} {pos : Pos} {keys : List (Option Expr)} {values : List Expr}
end
end DL

set_option Elab.async false
set_option linter.all false
set_option maxRecDepth 100000
set_option maxHeartbeats 4000000
set_option autoImplicit false
namespace DL
open PySem PySem.Spec PyProof.Rows L2
/-! ### sum(list, ()) of one tuple at most -/
section
variable {prog : Program} {w : World} {A : Around} {E : Value → Shared → Prop} {s : Shared}
abbrev TAt (h : Heap) (a : Addr) (vs : List Value) : Prop := ∃ o n, h.get? a = some o ∧ o.cls = .type "tuple" ∧ o.data = .seq vs.toArray n
theorem add_empty {a b : Addr} {us : List Value} {Q : Value → Shared → Prop} (ha : TAt s.heap a []) (hb : TAt s.heap b us) (q : Q (.ref b) s) : wpAny (model prog w) A (binaryOp .Add (.ref a) (.ref b)) Q E s := by
  obtain ⟨⟨c1, d1, t1, s1⟩, n1, e1, rfl, rfl⟩ := ha
  obtain ⟨⟨c2, d2, t2, s2⟩, n2, e2, rfl, rfl⟩ := hb
  exact concat_meets ⟨_, e1, rfl⟩ ⟨_, e2, rfl⟩ noFill_tuple_add seq_tuple_add PySem.F.slot_tuple_add PySem.F.entry_tuple_add (PySem.F.args_tuple_add_2 _ _) (tuple_addW0 a b ([] : List Value).toArray us.toArray n1 n2 d1 d2 s1 s2 rfl) ⟨e1, e2, q⟩
structure Sum1 (h0 h : Heap) (z : Addr) (items : List Value) (i : Nat) (a : Addr) : Prop where
  keeps : ∀ b o, h0.get? b = some o → h.get? b = some o
  at_ : i = 0 ∧ a = z ∨ i = 1 ∧ items = [.ref a]
theorem sum_one {l z : Addr} {items : List Value} {Q : Value → Shared → Prop} (hh : A.handled = none) (hl : s.heap.IsList l items.toArray) (hz : TAt s.heap z []) (h1 : items.length ≤ 1)
    (hr : ∀ v ∈ items, ∃ a us, v = .ref a ∧ TAt s.heap a us)
    (q : ∀ r h' tk, (∀ b o, s.heap.get? b = some o → h'.get? b = some o) → (items = [] ∧ r = z ∨ items = [.ref r]) → Q (.ref r) { s with heap := h', toks := tk }) :
    wpAny (model prog w) A (call (.builtin "sum") [.ref l, .ref z]) Q E s := by
  have hll : l < s.heap.objs.size := by obtain ⟨o, e1, _⟩ := hl; exact Heap.lt_size e1
  refine call_function_tree PySem.F.kind_sum PySem.F.plain_sum PySem.F.entry_sum (args_sum2 _ _) ?_
  unfold Builtin.«sum»
  simp only [List.length_cons, List.length_nil]
  rw [if_neg (by decide)]
  refine wpAny_bind (wpAny_of_eq (show Builtin.Builtins.bindParams "sum" ["start"] 0 { pos := [.ref z] } = pure [some (.ref z)] from rfl) ?_)
  refine wpAny_bind (wpAny_pyIter_list hl ?_)
  refine wpAny_bind (wpAny_pure ?_)
  simp only [List.forIn_cons, List.forIn_nil]
  have hT : Shared.TypeIs { s with heap := s.heap.push { cls := .type "list_iterator", data := .fields #[.ref l, .int 0 0] } } (.ref z) "tuple" := by
    obtain ⟨o, n, e1, e2, _⟩ := hz
    exact ⟨o, Heap.get?_push_of_some _ e1, e2⟩
  refine wpAny_bind (wpAny_bind (wpAny_bind (wpAny_isInstance (T := "tuple") (b := false) hT PySem.F.sub_tuple_str ?_)))
  simp only [Bool.false_eq_true, if_false]
  refine wpAny_pure (wpAny_bind (wpAny_bind (wpAny_isInstance (T := "tuple") (b := false) hT PySem.F.sub_tuple_bytes ?_)))
  simp only [Bool.false_eq_true, if_false]
  refine wpAny_pure (wpAny_bind (wpAny_bind (wpAny_isInstance (T := "tuple") (b := false) hT PySem.F.sub_tuple_bytearray ?_)))
  simp only [Bool.false_eq_true, if_false]
  refine wpAny_pure (wpAny_pure ?_)
  refine wpAny_bind (wpAny_newObj_type ?_)
  obtain ⟨it, hit⟩ : ∃ it : Obj, it = { cls := .type "list_iterator", data := .fields #[.ref l, .int 0 0] } := ⟨_, rfl⟩
  rw [← hit]
  have z1 : (s.heap.push it).objs.size = s.heap.objs.size + 1 := Heap.size_push ..
  have W := (Walks.list (prog := prog) (w := w) (A := A.in1) (show A.in1.handled = none by simp [hh]) s.heap.objs.size l (Nat.ne_of_lt hll) items.toArray).toS
  have keep : ∀ i a h h', (∀ b o, b ∉ (s.heap.push it).objs.size :: [s.heap.objs.size] → h.get? b = some o → h'.get? b = some o) → Sum1 s.heap h z items i a → Sum1 s.heap h' z items i a := fun i a h h' k C => by
    have lo : ∀ b, b < s.heap.objs.size → b ∉ (s.heap.push it).objs.size :: [s.heap.objs.size] := fun b hb m => by
      rw [z1] at m
      simp only [List.mem_cons, List.not_mem_nil, or_false] at m
      rcases m with e | e <;> rw [e] at hb
      · exact absurd hb (Nat.not_lt_of_le (Nat.le_succ _))
      · exact Nat.lt_irrefl _ hb
    exact ⟨fun b o e => k b o (lo b (Heap.lt_size e)) (C.keeps b o e), C.at_⟩
  refine wpAny_pure ⟨plainId_quiet PySem.F.plain_sum_loop _, sum_loop W (S := (s.heap.push it).objs.size) (J := fun i a h => Sum1 s.heap h z items i a) ?ns keep ?step items.length 0 _ z 0 (by simp) ?st ?j0 ?ho ?fin⟩
  case ns =>
    intro m
    rw [z1] at m
    simp only [List.mem_cons, List.not_mem_nil, or_false] at m
    rcases m with e | e
    · exact Nat.succ_ne_self _ e
    · rw [← e] at hll; exact absurd hll (Nat.not_lt_of_le (Nat.le_succ _))
  case step =>
    intro i v a s1 E1 Q1 hi hv ⟨os, ho⟩ C q1
    have hv' : items[i]? = some v := by simpa using hv
    have hi' : i < items.length := by simpa using hi
    have i0 : i = 0 := by omega
    subst i0
    have ei : items = [v] := by
      cases items with
      | nil => simp at hi'
      | cons x xs =>
        have : xs = [] := by cases xs with | nil => rfl | cons _ _ => simp at h1
        subst this
        simpa using hv'
    rcases C.at_ with ⟨_, rfl⟩ | ⟨e, _⟩
    · obtain ⟨b, us, rfl, ob, nb, e1, e2⟩ := hr v (by rw [ei]; simp)
      obtain ⟨oz, nz, e3, e4⟩ := hz
      exact add_empty ⟨oz, nz, C.keeps _ _ e3, e4⟩ ⟨ob, nb, C.keeps _ _ e1, e2⟩ (q1 b s1.heap (fun _ _ e => e) ⟨C.keeps, .inr ⟨rfl, ei⟩⟩)
    · omega
  case st => exact ⟨⟨_, Heap.get?_push_of_some _ (by rw [hit]; exact Heap.get?_push_size _ rfl), rfl, rfl⟩, (hl.push _).push _⟩
  case j0 => exact ⟨fun b o e => Heap.get?_push_of_some _ (Heap.get?_push_of_some _ e), .inl ⟨rfl, rfl⟩⟩
  case ho => exact Heap.get?_push_size _ rfl
  case fin =>
    intro s' r mv C
    obtain ⟨h', g', d', tk', os'⟩ := s'
    have eg : g' = s.gens := mv.gens
    have ed : d' = s.drawn := mv.drawn
    have eo : os' = s.os := mv.os
    subst eg; subst ed; subst eo
    refine q r h' tk' C.keeps ?_
    rcases C.at_ with ⟨e, e2⟩ | ⟨_, e2⟩
    · exact .inl ⟨by simpa using e, e2⟩
    · exact .inr e2
end
section
variable {X : Cx}
end
end DL

set_option Elab.async false
set_option linter.all false
set_option maxRecDepth 100000
set_option maxHeartbeats 4000000
set_option autoImplicit false
namespace DL
open PySem PySem.Spec PyProof.Rows L2
/-! ### sorted(xs) of tuples (number, text, more), told apart by the number and the text -/
section
variable {prog : Program} {w : World} {A : Around} {s : Shared}
end
section
variable {X : Cx} {k : Nat}
end
/-! by data -/
end DL

set_option Elab.async false
set_option linter.all false
set_option maxRecDepth 100000
set_option maxHeartbeats 4000000
set_option autoImplicit false
namespace DL
open PySem PySem.Spec PyProof.Rows L2
/-! ### {k: v}, a dict with a nested key -/
section
variable {X : Cx} {pos : Pos}
end
end DL

set_option Elab.async false
set_option linter.all false
set_option maxRecDepth 100000
set_option maxHeartbeats 4000000
set_option autoImplicit false
namespace DL
/-! ### rows of numbers that hold: the plain law -/
theorem nodup_filter {α : Type} {l : List α} (p : α → Bool) (h : l.Nodup) : (l.filter p).Nodup := h.sublist List.filter_sublist
theorem sub_perm {α : Type} [DecidableEq α] : ∀ {a b : List α}, a.Nodup → (∀ x ∈ a, x ∈ b) → ∃ c, b.Perm (a ++ c)
  | [], b, _, _ => ⟨b, List.Perm.refl _⟩
  | x :: a, b, h, hs => by
    have hx : x ∉ a := (List.nodup_cons.mp h).1
    have h1 := List.perm_cons_erase (hs x List.mem_cons_self)
    obtain ⟨c, hc⟩ := sub_perm (a := a) (b := b.erase x) (List.nodup_cons.mp h).2 fun y hy => by
      have hne : y ≠ x := fun e => hx (e ▸ hy)
      exact (List.mem_erase_of_ne hne).mpr (hs y (List.mem_cons_of_mem _ hy))
    exact ⟨c, h1.trans (hc.cons x)⟩
theorem perm_of_sub {α : Type} [DecidableEq α] {a b : List α} (h : a.Nodup) (hs : ∀ x ∈ a, x ∈ b) (hl : b.length ≤ a.length) : b.Perm a := by
  obtain ⟨c, hc⟩ := sub_perm h hs
  have := hc.length_eq
  rw [List.length_append] at this
  have c0 : c = [] := List.length_eq_zero_iff.mp (by omega)
  rw [c0, List.append_nil] at hc
  exact hc
structure Sys where
  B : Nat → Nat → Bool
  L : Nat → Nat → Bool
  F : List Nat → Bool
  Blt : ∀ k o, B k o = true → o < k
  Llt : ∀ k o, L k o = true → o < k
  Fsub : ∀ a b, a.Sublist b → F b = true → F a = true
  Fperm : ∀ a b, a.Perm b → F a = F b
  F1 : ∀ k, F [k] = true
def restN (left row : List Nat) : List Nat := left.filter fun k => decide (k ∉ row)
variable (S : Sys)
/-- a first row of what is left -/
structure FR (left row : List Nat) : Prop where
  sub : row.Sublist left
  beh : ∀ k ∈ row, ∀ o ∈ left, S.B k o = false
  lev : ∀ k ∈ row, ∀ o ∈ left, S.L k o = true → o ∈ row
  fit : S.F row = true
def canJ (left row : List Nat) (k : Nat) : Prop := (∀ o ∈ left, S.L k o = true → o ∈ row) ∧ S.F (row ++ [k]) = true
def readyP (left : List Nat) (k : Nat) : Prop := k ∈ left ∧ ∀ o ∈ left, S.B k o = false
variable {S}
/-- one order more in a first row -/
def insN (left row : List Nat) (k : Nat) : List Nat := left.filter fun j => decide (j ∈ row ∨ j = k)
theorem mem_insN {left row : List Nat} {k j : Nat} : j ∈ insN left row k ↔ j ∈ left ∧ (j ∈ row ∨ j = k) := by
  unfold insN
  rw [List.mem_filter]
  simp
theorem insN_perm {left row : List Nat} {k : Nat} (hn : left.Nodup) (hs : row.Sublist left) (hk : k ∈ left) (hk2 : k ∉ row) : (insN left row k).Perm (row ++ [k]) := by
  have n1 : (insN left row k).Nodup := nodup_filter _ hn
  have n2 : (row ++ [k]).Nodup := by
    rw [List.nodup_append]
    refine ⟨hn.sublist hs, by simp, fun a ha b hb e => ?_⟩
    rw [List.mem_singleton.mp hb] at e
    exact hk2 (e ▸ ha)
  refine (List.perm_ext_iff_of_nodup n1 n2).mpr fun j => ?_
  rw [mem_insN, List.mem_append, List.mem_singleton]
  constructor
  · exact fun h => h.2
  · intro h
    refine ⟨?_, h⟩
    rcases h with h | h
    · exact hs.subset h
    · rw [h]; exact hk
theorem FR.ins {left row : List Nat} {k : Nat} (h : FR S left row) (hn : left.Nodup) (hr : readyP S left k) (hk : k ∉ row) (hc : canJ S left row k) : FR S left (insN left row k) := by
  refine ⟨List.filter_sublist, fun j hj o ho => ?_, fun j hj o ho hl => ?_, ?_⟩
  · rcases (mem_insN.mp hj).2 with c | rfl
    · exact h.beh j c o ho
    · exact hr.2 o ho
  · refine mem_insN.mpr ⟨ho, .inl ?_⟩
    rcases (mem_insN.mp hj).2 with c | rfl
    · exact h.lev j c o ho hl
    · exact hc.1 o ho hl
  · rw [S.Fperm _ _ (insN_perm hn h.sub hr.1 hk)]
    exact hc.2
/-- a way to part what is left into m rows -/
structure Asg (S : Sys) (left : List Nat) (m : Nat) (at_ : Nat → Nat) : Prop where
  lt : ∀ k ∈ left, at_ k < m
  fit : ∀ r, S.F (left.filter fun k => decide (at_ k = r)) = true
  beh : ∀ j ∈ left, ∀ k ∈ left, S.B j k = true → at_ k < at_ j
  lev : ∀ j ∈ left, ∀ k ∈ left, S.L j k = true → at_ k ≤ at_ j
theorem Asg.first {left : List Nat} {m : Nat} {at_ : Nat → Nat} (h : Asg S left m at_) : FR S left (left.filter fun k => decide (at_ k = 0)) := by
  refine ⟨List.filter_sublist, fun k hk o ho => ?_, fun k hk o ho hl => ?_, h.fit 0⟩
  · rw [List.mem_filter, decide_eq_true_iff] at hk
    cases e : S.B k o with
    | false => rfl
    | true => have := h.beh k hk.1 o ho e; omega
  · rw [List.mem_filter, decide_eq_true_iff] at hk
    have := h.lev k hk.1 o ho hl
    exact List.mem_filter.mpr ⟨ho, decide_eq_true (by omega)⟩
/-- rows, one behind the other, that use up what is left -/
def Chn (S : Sys) : List Nat → List (List Nat) → Prop
  | left, [] => left = []
  | left, row :: rows => FR S left row ∧ row ≠ [] ∧ Chn S (restN left row) rows
/-- m rows, and no fewer -/
def IsFew (S : Sys) (left : List Nat) (m : Nat) : Prop := (∃ rows, Chn S left rows ∧ rows.length = m) ∧ ∀ at_ c, Asg S left c at_ → m ≤ c
theorem IsFew.uniq {left : List Nat} {m n : Nat} (hc : ∀ rows, Chn S left rows → ∃ at_, Asg S left rows.length at_) (h : IsFew S left m) (k : IsFew S left n) : m = n := by
  obtain ⟨⟨r1, c1, l1⟩, b1⟩ := h
  obtain ⟨⟨r2, c2, l2⟩, b2⟩ := k
  obtain ⟨a1, g1⟩ := hc _ c1
  obtain ⟨a2, g2⟩ := hc _ c2
  have := b1 _ _ g2
  have := b2 _ _ g1
  omega
end DL

set_option Elab.async false
set_option linter.all false
set_option maxRecDepth 100000
set_option maxHeartbeats 4000000
set_option autoImplicit false
namespace DL
open PySem PySem.Spec PyProof.Rows L2
/-! ### all full first rows, as they are gone through -/
section
variable {S : Sys} {left : List Nat} {c : List Nat → Nat → Bool}
end
/-! ### parts of a list, counted -/
/-! ### dicts with nested keys and any values, typed -/
section
variable {α β : Type} [DecidableEq α]
variable {d : α → D} {v : β → D} (heq : ∀ a b, eqD (d a) (d b) = decide (a = b))
include heq
variable {w : World} {G : Gp} {a : Addr} {l : List (α × β)} {k : α}
theorem setV_big {R : Gp → Prop} {z : β} (e : G a = some (GO.dN w (encV d v l))) (hk : kyD (d k) = true) (hd : depD (d k) ≤ 8) (hl : l.length < 1000000) (hn : k ∉ l.map (·.1)) (q : R (gup G a (GO.dN w (encV d v (l ++ [(k, z)]))))) : dSetX w (.ref a) (d k) (v z) G R :=
  ⟨a, _, rfl, e, hk, hd, by unfold encV; rw [List.length_map, sizeLine_eq]; omega, by rw [putX_encV heq z hn]; exact q⟩
end
end DL

set_option Elab.async false
set_option linter.all false
set_option maxRecDepth 100000
set_option maxHeartbeats 4000000
set_option autoImplicit false
namespace DL
open PySem PySem.Spec PyProof.Rows L2
/-! ### a list comprehension whose elements lay new things, by an invariant -/
theorem ne_refE {p : Addr} {ds : List D} {G : Gp} {R : DK} (e : G p = some (.lst ds)) (h : pyDs ds = true) (hd : depDs ds ≤ 60) (k : R (.bl (decide (ds ≠ []))) G) : dNe (.ref p) (.lst []) G R := by
  have k3 : dNe (.lst ds) (.lst []) G R := by
    rw [ne_pure (by simpa only [pyD] using h) rfl (by simp only [depD]; omega) (by simp [depD, depDs])]
    cases ds with
    | nil => simpa [eqD, eqDs] using k
    | cons a l => simpa [eqD, eqDs] using k
  unfold dNe dEqW at k3 ⊢
  have e2 : gPy G (.ref p) = gPy G (.lst ds) := by unfold gPy; simp only [e, toPy]
  simp only [e2]
  exact k3
end DL

set_option Elab.async false
set_option linter.all false
set_option maxRecDepth 100000
set_option maxHeartbeats 4000000
set_option autoImplicit false
namespace DL
open PySem PySem.Spec PyProof.Rows L2
/-! ### the keys of a dict, whatever they are, gone through -/
section
variable {prog : Program} {w : World} {A : Around} {E : Value → Shared → Prop} {s : Shared} {d I : Addr} {o : Obj} {es : Array DictEntry} {ep i : Nat}
end
section
variable {X : Cx}
end
end DL

set_option Elab.async false
set_option linter.all false
set_option maxRecDepth 100000
set_option maxHeartbeats 4000000
set_option autoImplicit false
namespace DL
open PySem PySem.Spec PyProof.Rows L2
/-! ### all first rows, and what may be left behind some -/
/-! ### d[k] = v again -/
section
variable {α β : Type} [DecidableEq α] {d : α → D} {v : β → D} (heq : ∀ a b, eqD (d a) (d b) = decide (a = b))
include heq
variable {w : World} {G : Gp} {a : Addr} {l : List (α × β)} {k : α}
end
end DL

set_option Elab.async false
set_option linter.all false
set_option maxRecDepth 100000
set_option maxHeartbeats 4000000
set_option autoImplicit false
namespace DL
open PySem PySem.Spec PyProof.Rows L2
/-! ### a list that is known, lent to a def that only reads it -/
section
variable {X : Cx} {k : Nat} {f : Addr} {fd : FuncData} {ps : List Str} {sp : DSp} {x : Str} {p pos : Pos} {e : Expr} {es : List Expr} {t : DA}
end
end DL

set_option Elab.async false
set_option linter.all false
set_option maxRecDepth 100000
set_option maxHeartbeats 4000000
set_option autoImplicit false
namespace DL
open PySem PySem.Spec PySem.Calls PyProof.Rows PySem.SeqAt PySem.W L2
/-! ### tuples sorted, the empty one among them -/
section
variable {prog : Program} {w : World} {A : Around} {E : Value → Shared → Prop} {s : Shared}
theorem call_tuple_ltT {Q : Value → Shared → Prop} {l b : Addr} {items items2 : Array Value} {e r : Nat → Bool} (hl : s.heap.IsTuple l items) (hb : s.heap.IsTuple b items2)
    (he : ∀ j (h1 : j < items.size) (h2 : j < items2.size), EqAt A.in1 s items[j] items2[j] (e j)) (hr : ∀ j (h1 : j < items.size) (h2 : j < items2.size), e j = false → RcLt A.in1 s items[j] items2[j] (r j))
    (h : Q (.bool (firstLt e r (decide (items.size < items2.size)) (List.range (min items.size items2.size)))) s) : wpAny (model prog w) A (call (.builtin "tuple.__lt__") [.ref l, .ref b]) Q E s := by
  obtain ⟨⟨cls, dd, data, sl⟩, ho, hc, n, hd⟩ := id hl
  obtain ⟨⟨cls2, dd2, data2, sl2⟩, ho2, hc2, n2, hd2⟩ := id hb
  simp only at hc hd hc2 hd2
  subst hc hd hc2 hd2
  exact call_meets F.slot_tuple_lt ⟨_, ho, rfl⟩ F.entry_tuple_lt (F.args_tuple_lt_2 _ _) (tuple_ltAt l b items items2 n n2 dd dd2 sl sl2 e r) ⟨ho, ho2, he, hr, h⟩
theorem oneLt_tupT {xs ys : List PyData} {a b : Value} {as bs : List Addr} {Q : Bool → Shared → Prop} (ra : Reads s.heap a (.tuple xs) as) (rb : Reads s.heap b (.tuple ys) bs) (h : alike (.tuple xs) (.tuple ys) = true)
    (hu : A.units + min (PyData.tuple xs).depth (PyData.tuple ys).depth < cLine) (hq : Q (dataLt (.tuple xs) (.tuple ys)) s) : wpAny (model prog w) A (oneLt' true a b) Q E s := by
  have hal : alikeAll xs ys = true := by simpa [alike] using h
  cases ra with
  | @tuple l o vs n _ as₁ h1 h2 h3 h4 =>
    cases rb with
    | @tuple l' o' vs' n' _ bs₁ k1 k2 k3 k4 =>
      have n1 : vs.size = xs.length := by simpa using ReadsAll.length _ _ _ h4
      have n2 : vs'.size = ys.length := by simpa using ReadsAll.length _ _ _ k4
      rw [dataLt_tuple, ← firstLt_toks xs ys hal, ← n1, ← n2] at hq
      rw [oneLt'_eq]
      simp only [if_true]
      refine wpAny_bind (wpAny_cRoomFor (room_here hu) ?_)
      refine wpAny_bind (wpAny_callSpecialIfBound?_slot (T := "tuple") ⟨_, h1, h2⟩ F.slot_tuple_lt (call_tuple_ltT (e := pairEq xs ys) (r := fun j => dataLt (xs.getD j .none) (ys.getD j .none)) ⟨_, h1, h2, _, h3⟩ ⟨_, k1, k2, _, k3⟩ (fun j j1 j2 => ?_) (fun j j1 j2 hj => ?_) ?_))
      · have := eqAt_alikeAll xs ys A.in1 s vs.toList vs'.toList _ _ h4 k4 hal (room_in hu) j (by simpa using j1) (by simpa using j2)
        simpa using this
      · have := rcLt_alikeAll xs ys A.in1 s vs.toList vs'.toList _ _ h4 k4 hal (room_in hu) j (by simpa using j1) (by simpa using j2) hj
        simpa using this
      · exact wpAny_truthy_bool hq
def neT : PyData → Bool | .tuple (_ :: _) => true | _ => false
theorem firsts_wp {M : Model} : ∀ {vs : List Value} {ds : List PyData}, PySem.W.EachIs (fun v d => ∃ as, Reads s.heap v d as) vs ds → (∀ d ∈ ds, ∃ xs, d = .tuple xs) → ∃ fs : List (Option Value), fs.map Option.isSome = ds.map neT ∧ ∀ {Q : List (Option Value) → Shared → Prop}, Q fs s → wpAny M A (vs.mapM firstOfTuple') Q E s
  | _, _, .nil, _ => ⟨[], rfl, fun h => by rw [List.mapM_nil]; exact wpAny_pure h⟩
  | v :: vs, d :: ds, .cons ⟨as, r⟩ t, ht => by
    obtain ⟨fs, h1, h2⟩ := firsts_wp (M := M) t fun d hd => ht d (List.mem_cons_of_mem _ hd)
    obtain ⟨xs, rfl⟩ := ht d List.mem_cons_self
    cases r with
    | @tuple a o us n _ _ ho hc hd hr =>
      refine ⟨us[0]? :: fs, ?_, fun {Q} h => ?_⟩
      · rw [List.map_cons, List.map_cons, h1]
        congr 1
        have hl := ReadsAll.length _ _ _ hr
        cases xs with
        | nil =>
          have : us.size = 0 := by simpa using hl
          simp [neT, this]
        | cons x xs =>
          have : us.size = xs.length + 1 := by simpa using hl
          simp [neT, this]
      · rw [List.mapM_cons]
        refine wpAny_bind ?_
        rw [kas_first_eq]
        refine wpAny_bind (Looks.here (show Looks M s.heap (typeOf (.ref a)) o.cls from (Looks.ld ho).andThen .now) ?_)
        rw [hc, if_neg (by first | decide | simp)]
        refine wpAny_bind (listItems_at ho hd (wpAny_pure ?_))
        exact wpAny_bind (h2 (Q := fun bs s' => wpAny M A (pure (us[0]? :: bs)) Q E s') (wpAny_pure h))
theorem neT_iff {d : PyData} : neT d = true ↔ ∃ x r, d = .tuple (x :: r) := by
  cases d with
  | tuple xs =>
    cases xs with
    | nil => simp [neT]
    | cons x r => simp [neT]
  | _ => simp [neT]
theorem keyLt'_general (x y : Value) : keyLt' general' x y = oneLt' false x y := rfl
/-- values that read as alike tuples can be sorted, some of them empty -/
theorem sortsTup {vs : List Value} {ds : List PyData} (e : PySem.W.EachIs (fun v d => ∃ as, Reads s.heap v d as) vs ds) (hal : AllAlike ds) (ht : ∀ d ∈ ds, ∃ xs, d = .tuple xs) (hu : ∀ d ∈ ds, A.units + d.depth < cLine) : SortsAt prog w A s (dataKind s.heap ds) vs := by
  by_cases hk : ∀ d ∈ ds, ∃ x r, d = .tuple (x :: r)
  · exact SortsAt.data e hal (.inl hk) hu
  have room : ∀ {d d' : PyData}, d ∈ ds → A.units + min d.depth d'.depth < cLine := fun {d d'} hd => Nat.lt_of_le_of_lt (Nat.add_le_add_left (Nat.min_le_left _ _) _) (hu d hd)
  have hnall : ds.all neT = false := by
    rw [Bool.eq_false_iff]
    intro h
    exact hk fun d hd => neT_iff.mp (List.all_eq_true.mp h d hd)
  refine ⟨fun v hv => ?_, if (ds.head?.map neT).getD false = true then general' else oneType', ?_, fun h2 E Q hq => ?_⟩
  · obtain ⟨d, hd, as, r⟩ := e.left v hv
    exact ⟨_, dataKind_some hal hd r⟩
  · intro E x y a b Q ha hb hq
    obtain ⟨d, as, hd, ra, rfl⟩ := dataKind_inv ha
    obtain ⟨d', as', hd', rb, rfl⟩ := dataKind_inv hb
    obtain ⟨xs, rfl⟩ := ht d hd
    obtain ⟨ys, rfl⟩ := ht d' hd'
    split
    · rw [keyLt'_general]
      exact oneLt_alike (fun z => by cases z) ra rb (hal _ hd _ hd') (fun z => by cases z) (room hd) hq
    · rw [keyLt'_oneType]
      exact oneLt_tupT ra rb (hal _ hd _ hd') (room hd) hq
  · obtain ⟨fs, f1, f2⟩ := firsts_wp (M := model prog w) (A := A) (E := E) e ht
    have hall : fs.toArray.all (·.isSome) = false := by
      rw [List.all_toArray]
      have : fs.all (·.isSome) = (fs.map Option.isSome).all id := by rw [List.all_map]; rfl
      rw [this, f1, List.all_map]
      exact hnall
    rw [keyKind'_eq, List.mapM_toArray, map_eq_pure_bind]
    refine wpAny_bind (wpAny_bind (f2 (wpAny_pure ?_)))
    rw [if_neg (by rw [hall]; simp)]
    have h0 : ((fs.toArray)[0]?.bind id).isSome = (ds.head?.map neT).getD false := by
      rw [List.getElem?_toArray]
      cases fs with
      | nil =>
        cases ds with
        | nil => rfl
        | cons d ds => simp at f1
      | cons f fs =>
        cases ds with
        | nil => simp at f1
        | cons d ds =>
          simp only [List.map_cons, List.cons.injEq] at f1
          simp [← f1.1]
    rw [h0]
    by_cases c : (ds.head?.map neT).getD false = true
    · rw [if_pos c]
      rw [if_pos c] at hq
      exact wpAny_pure hq
    · rw [if_neg c]
      rw [if_neg c] at hq
      have hT : ∀ v ∈ vs, Looks (model prog w) s.heap (typeOf v) (.type "tuple") := fun v hv => by
        obtain ⟨d, hd, as, r⟩ := e.left v hv
        obtain ⟨xs, rfl⟩ := ht d hd
        exact looks_reads r
      rw [oneTypeOnly'_eq, List.mapM_toArray, map_eq_pure_bind]
      refine wpAny_bind (wpAny_bind (wpAny_bind (kas_mapM (r := Value.type "tuple") _ (fun v hv Q' hq => (hT v hv).here hq) (wpAny_pure ?_))))
      obtain ⟨v₁, rest, rfl⟩ : ∃ v₁ rest, vs = v₁ :: rest := by
        match vs, h2 with
        | v₁ :: rest, _ => exact ⟨v₁, rest, rfl⟩
      have hall2 : ((List.map (fun _ => Value.type "tuple") (v₁ :: rest)).toArray.all fun x => x == Value.type "tuple") = true := by
        simp only [List.all_toArray, List.all_map, List.all_eq_true]
        intro _ _
        exact (by simp)
      have h0 : (List.map (fun _ => Value.type "tuple") (v₁ :: rest)).toArray[0]? = some (Value.type "tuple") := by simp
      rw [h0]
      simp only [hall2, if_true]
      exact wpAny_pure (wpAny_pure hq)
end
/-! ### sorted(d), the keys of d tuples of numbers -/
section
variable {X : Cx} {k : Nat}
end
/-! by data -/
theorem toPys_len : ∀ {ds : List D} {ps : List PyData}, toPys ds = some ps → ps.length = ds.length
  | [], ps, h => by simp [toPys] at h; subst h; rfl
  | d :: ds, ps, h => by
    simp only [toPys] at h
    cases e1 : toPy d with
    | none => rw [e1] at h; simp at h
    | some p =>
      cases e2 : toPys ds with
      | none => rw [e1, e2] at h; simp at h
      | some qs =>
        rw [e1, e2] at h
        simp at h
        rw [← h, List.length_cons, List.length_cons, toPys_len e2]
section
variable {X : Cx} {k : Nat}
end
end DL

set_option Elab.async false
set_option linter.all false
set_option maxRecDepth 100000
set_option maxHeartbeats 4000000
set_option autoImplicit false
namespace DL
open PySem PySem.Spec PyProof.Rows L2
/-! ### d[k] = v and d.get(k, y), whether k is there or not -/
section
variable {α β : Type} [DecidableEq α]
variable {d : α → D} {v : β → D} (heq : ∀ a b, eqD (d a) (d b) = decide (a = b))
include heq
variable {w : World} {G : Gp} {a : Addr} {l : List (α × β)} {k : α}
end
end DL

set_option Elab.async false
set_option linter.all false
set_option maxRecDepth 100000
set_option maxHeartbeats 4000000
set_option autoImplicit false
namespace DL
open PySem PySem.Spec PyProof.Rows L2
/-! ### for k in d -/
/-! ### sorted of a list or tuple of alike things -/
section
variable {X : Cx} {k : Nat}
def rSortA (K : PySem.W.Frag) : List V → Hp → VK → Prop := fun vs H Q => ∃ a xs kz, vs = [.ref a] ∧ (SqL K H a xs ∨ SqT K H a xs) ∧ DpAll K H xs kz ∧ PySem.W.AllAlike kz ∧ (PySem.W.Sortable kz ∨ ∀ d ∈ kz, ∃ xs, d = .tuple xs) ∧ (∀ d ∈ kz, d.depth ≤ 8) ∧ ∀ p, H p = none → Q (.ref p) (upd H p (.lst (keyOut xs kz)))
theorem cr_sortA (hr : Room k X.A) : CallR X (.builtin "sorted") (rSortA X.K) := by
  intro pins s σ H vs us Q I r h
  obtain ⟨l, xs, kz, rfl, hs, hdp, hal, hsk, hdep, q⟩ := h
  obtain rfl := Vals.ref1 r
  obtain ⟨its, rv, T, o, n, hT, ho, hc, hd, hz⟩ : ∃ its, Vals xs its ∧ ∃ T o n, (T = "list" ∨ T = "tuple") ∧ s.heap.get? l = some o ∧ o.cls = .type T ∧ o.data = .seq its.toArray n ∧ its.length ≤ sizeLine := by
    rcases hs with hs | hs
    · obtain ⟨its, rv, hl, hz⟩ := I.list hs
      obtain ⟨o, ho, hc, n, hd⟩ := hl.isList
      exact ⟨its, rv, "list", o, n, .inl rfl, ho, hc, hd, by rw [← rv.length]; exact hz⟩
    · obtain ⟨its, rv, ⟨o, ho, hc, n, hd⟩, hz⟩ := I.tuple hs
      exact ⟨its, rv, "tuple", o, n, .inr rfl, ho, hc, hd, by rw [← rv.length]; exact hz⟩
  refine own_sorted hT ho hc hd hz (args_sorted1 _) (fun x => args_list_sort _) fun g E' hg => ?_
  have I1 : Inv X pins σ H { s with heap := g } := I.kept (t' := s.toks) hg
  obtain ⟨as, hr2⟩ := Dp.readsAll I1 _ _ its hdp rv
  have hS : (g.push (seqObj "list" its.toArray 0)).get? g.objs.size = some (seqObj "list" its.toArray 0) := Heap.get?_push_size _ rfl
  have old : ∀ b o, g.get? b = some o → (PySem.W.sortingHeap (g.push (seqObj "list" its.toArray 0)) g.objs.size its).get? b = some o := fun b o e =>
    PySem.W.sortingHeap_old (Nat.ne_of_lt (Heap.lt_size e)) (Heap.get?_push_of_some _ e)
  have hE : PySem.W.EachIs (fun v d => ∃ as, Reads (PySem.W.sortingHeap (g.push (seqObj "list" its.toArray 0)) g.objs.size its) v d as) its kz := (each_of_reads hr2).mono fun _ _ ⟨as, r⟩ => ⟨as, PyProof.Rows.Reads.keeps old r⟩
  have hlen : xs.length = kz.length := rv.length.trans hE.length
  have hroom : ∀ d ∈ kz, X.A.units + 1 + 1 + d.depth < cLine := fun d hd => by
    have := hdep d hd
    have := hr.un
    omega
  have SA : PySem.W.SortsAt X.prog X.w X.A.in1.in1 { s with heap := PySem.W.sortingHeap (g.push (seqObj "list" its.toArray 0)) g.objs.size its } (PySem.W.dataKind (PySem.W.sortingHeap (g.push (seqObj "list" its.toArray 0)) g.objs.size its) kz) its := by
    rcases hsk with hsk | hsk
    · exact PySem.W.SortsAt.data (s := { s with heap := PySem.W.sortingHeap (g.push (seqObj "list" its.toArray 0)) g.objs.size its }) hE hal hsk hroom
    · exact sortsTup (s := { s with heap := PySem.W.sortingHeap (g.push (seqObj "list" its.toArray 0)) g.objs.size its }) hE hal hsk hroom
  refine PySem.W.list_sort_vals hS SA hz ⟨rfl, ?_⟩
  generalize PySem.W.sortingHeap (g.push (seqObj "list" its.toArray 0)) g.objs.size its = gg at hE SA ⊢
  have hout := PySem.W.keyedOut_each (β := V × PyData) (R := fun u p => RelV p.1 u) (bs := xs.zip kz) (rev := false) (vs := its) (out := PySem.W.sortVals (PySem.W.dataKind gg kz) false its its) (·.2)
    (by rw [List.map_snd_zip (by omega)]; exact ⟨gg, its, hal, rfl, hE⟩) (each_zip rv hlen)
  have hv := vals_each hout
  have hlo : (keyOut xs kz).length ≤ sizeLine := by
    unfold keyOut
    rw [List.length_map, List.length_mergeSort, List.length_zip, ← hlen, rv.length]
    omega
  obtain ⟨ep', he'⟩ := PyProof.Rows.sortedHeap_at (vs := its) (out := (PySem.W.sortVals (PySem.W.dataKind gg kz) false its its).toArray) hS
  refine ⟨.ref g.objs.size, upd H g.objs.size (.lst (keyOut xs kz)), I1.laid (t' := s.toks) (fun b o e => ?_) (Nat.le_refl _) ⟨hlo, _, ep', hv, he'⟩, rfl, q _ (I1.hok.fresh (Nat.le_refl _))⟩
  rw [PyProof.Rows.sortedHeap_old (Nat.ne_of_lt (Heap.lt_size e)) (by rw [size_push']; exact Nat.lt_succ_of_lt (Heap.lt_size e))]
  exact Heap.get?_push_of_some _ e
/-- by data -/
theorem rds_keyOut {K : PySem.W.Frag} {H : Hp} {N : Ns} {ds : List D} {vs : List V} {kz : List PyData} (r : RDs K H N ds vs) (hl : ds.length = kz.length) : RDs K H N (((ds.zip kz).mergeSort (PySem.W.dataLe false (·.2))).map (·.1)) (keyOut vs kz) := by
  have h1 : (ds.zip vs).map (·.1) = ds := List.map_fst_zip (Nat.le_of_eq r.length)
  have h2 : (ds.zip vs).map (·.2) = vs := List.map_snd_zip (Nat.le_of_eq r.length.symm)
  have proj : ∀ {α β : Type} (f : α → β) (L : List α), ((((L.zip kz).mergeSort (PySem.W.dataLe false fun p : α × PyData => p.2)).map (·.1)).map f) = ((((L.map f).zip kz).mergeSort (PySem.W.dataLe false fun p : β × PyData => p.2)).map (·.1)) := fun {α β} f L => by
    rw [List.map_map]
    have e : (L.map f).zip kz = (L.zip kz).map fun p : α × PyData => (f p.1, p.2) := by rw [List.zip_map_left]; rfl
    rw [e, ← List.map_mergeSort (r := PySem.W.dataLe false fun p : α × PyData => p.2) (f := fun p : α × PyData => (f p.1, p.2)) (fun a _ b _ => rfl), List.map_map]
    rfl
  have e1 := proj (·.1) (ds.zip vs)
  have e2 := proj (·.2) (ds.zip vs)
  rw [h1] at e1
  rw [h2] at e2
  unfold keyOut
  rw [← e1, ← e2]
  have hlen := r.length
  refine rds_pairs _ _ _ fun p hp => rds_zip r p ?_
  obtain ⟨z, hz, rfl⟩ := List.mem_map.mp hp
  have hz := (List.mergeSort_perm _ _).mem_iff.mp hz
  exact (List.of_mem_zip hz).1
def sortA (ds : List D) (kz : List PyData) : List D := ((ds.zip kz).mergeSort (PySem.W.dataLe false (·.2))).map (·.1)
def dSortA (mk : Bool) : DRn := fun cs G R => ∃ x ds kz, cs = [x] ∧ seqOf G x = some ds ∧ toPys ds = some kz ∧ PySem.W.AllAlike kz ∧ (PySem.W.Sortable kz ∨ ∀ d ∈ kz, ∃ xs, d = .tuple xs) ∧ (∀ d ∈ kz, d.depth ≤ 8) ∧ newL mk (sortA ds kz) G R
theorem cd_sortA (mk : Bool) (hr : Room k X.A) : CallD X (.builtin "sorted") (dSortA mk) := up_rn (cr_sortA hr) fun cs G N R xs H Q rd rg h q => by
  obtain ⟨x, ds, kz, rfl, e, ek, h1, h2, h3, h4⟩ := h
  obtain ⟨v, r, rfl, r1, r2⟩ := rd.of_cons
  rw [r2.of_nil]
  obtain ⟨p, vs, rfl, sq, r⟩ := seqOf_ok rg r1 e
  exact ⟨p, vs, kz, rfl, sq, toPys_ok r ek, h1, h2, h3, fun p np => newL_ok rg (rds_keyOut r (toPys_len ek).symm) h4 q np⟩
end
end DL

set_option Elab.async false
set_option linter.all false
set_option maxRecDepth 100000
set_option maxHeartbeats 4000000
set_option autoImplicit false
namespace DL
open PySem PySem.Spec PyProof.Rows L2
/-! ### dict of a list of pairs -/
section
variable {X : Cx} {pins : List (Addr × Obj)} {σ : L2.St} {H : Hp} {s : Shared} {N : Ns} {a : Addr} {kvs : List (D × D)} {kvs' : List (Int × V × V)}
end
/-! typed -/
section
variable {α β : Type} [DecidableEq α] {d : α → D} {v : β → D} (heq : ∀ a b, eqD (d a) (d b) = decide (a = b))
include heq
end
end DL

set_option Elab.async false
set_option linter.all false
set_option maxRecDepth 100000
set_option maxHeartbeats 4000000
set_option autoImplicit false
namespace DL
open PySem PySem.Spec PyProof.Rows L2
/-! ### sorted(xs, key=len), xs tuples -/
section
variable {X : Cx} {k : Nat}
end
/-! by data -/
section
variable {X : Cx} {k : Nat}
end
end DL

set_option Elab.async false
set_option linter.all false
set_option maxRecDepth 100000
set_option maxHeartbeats 4000000
set_option autoImplicit false
namespace DL
open PySem PySem.Spec PyProof.Rows L2
/-! ### ("a", "b"): a tuple of texts of which it is known that it has no dict -/
section
variable {X : Cx} {es : List Expr} {tr : DA} {pos : Pos}
end
end DL

set_option Elab.async false
set_option linter.all false
set_option maxRecDepth 100000
set_option maxHeartbeats 4000000
set_option autoImplicit false
namespace DL
open PySem PySem.Spec PyProof.Rows L2
/-! ### exceptions, by data: a wish tells the class, the fields of its own, the slots, what is known -/
abbrev DXW := Value → List (Str × D) → Sd → Gp → Prop
abbrev DXC := Value → List (Str × D) → Gp → Prop
/-- the dict of an exception's own fields -/
def XdAt (K : PySem.W.Frag) (H : Hp) (N : Ns) (G : Gp) : Option Addr → List (Str × D) → Prop
  | none, fs => fs = []
  | some a, fs => fs ≠ [] ∧ G a = none ∧ ∃ fs', H a = some (.xd fs') ∧ RKV K H N fs fs'
def UpX (K : PySem.W.Frag) (H : Hp) (N : Ns) (G : Gp) (RX : DXW) (W : WX) : Prop := ∀ cls fs σ' G' N' τ' H' d, RX cls fs σ' G' → Stp K H N G H' N' G' → RSt K H' N' σ' τ' → XdAt K H' N' G' d fs → W cls d τ' H'
def UpXC (K : PySem.W.Frag) (H : Hp) (N : Ns) (G : Gp) (RX : DXC) (E : XK) : Prop := ∀ cls fs G' N' H' d, RX cls fs G' → Stp K H N G H' N' G' → XdAt K H' N' G' d fs → E cls d H'
theorem UpX.le {K : PySem.W.Frag} {H H1 : Hp} {N N1 : Ns} {G G1 : Gp} {RX : DXW} {W : WX} (q : UpX K H N G RX W) (s : Stp K H N G H1 N1 G1) : UpX K H1 N1 G1 RX W := fun cls fs σ' G' N' τ' H' d r s' rs x => q cls fs σ' G' N' τ' H' d r (s.trans s') rs x
def upX (K : PySem.W.Frag) (W : WX) (t : DXW → DE) : TE := fun τ H Q => ∃ σ G N R RX, RSt K H N σ τ ∧ RelG K H N G ∧ t RX σ G R ∧ UpQ K H N G R Q ∧ UpX K H N G RX W
def upTX (K : PySem.W.Frag) (W : WX) (t : DXW → DT) : TT := fun τ H Q => ∃ σ G N R RX, RSt K H N σ τ ∧ RelG K H N G ∧ t RX σ G R ∧ (∀ b G' N' H', R b G' → Stp K H N G H' N' G' → Q b H') ∧ UpX K H N G RX W
def upAX (K : PySem.W.Frag) (W : WX) (t : DXW → DA) : TA := fun τ H Q => ∃ σ G N R RX, RSt K H N σ τ ∧ RelG K H N G ∧ t RX σ G R ∧ (∀ ds G' N' vs H', R ds G' → Stp K H N G H' N' G' → RDs K H' N' ds vs → Q vs H') ∧ UpX K H N G RX W
def upSX (K : PySem.W.Frag) (W : WX) (t : DXW → DS) : TS := fun D τ H => ∃ σ G N E RX, RSt K H N σ τ ∧ RelG K H N G ∧ t RX E σ G ∧ UpE K H N G E D ∧ UpX K H N G RX W
def QEX (X : Cx) (W : WX) (e : Expr) (t : DXW → DE) : Prop := PE X e (upX X.K W t)
def QTX (X : Cx) (W : WX) (e : Expr) (t : DXW → DT) : Prop := PT X e (upTX X.K W t)
def QAX (X : Cx) (W : WX) (es : List Expr) (t : DXW → DA) : Prop := PA X es (upAX X.K W t)
def QSX (X : Cx) (W : WX) (st : Stmt) (t : DXW → DS) : Prop := PS X st (upSX X.K W t)
def QSsX (X : Cx) (W : WX) (st : List Stmt) (t : DXW → DS) : Prop := PSs X st (upSX X.K W t)
section
variable {X : Cx} {W : WX} {e a b c : Expr} {pos : Pos} {t ta tb : DXW → DE} {u u' : DXW → DT}
/-! ### what raises nothing -/
theorem tx_of {te : DT} (h : QT X e te) : QTX X W e (fun _ => te) := pt_mono h fun τ H Q ⟨σ, G, N, R, RX, hs, hg, ht, q, _⟩ => ⟨σ, G, N, R, hs, hg, ht, q⟩
theorem ax_of {es : List Expr} {te : DA} (h : QA X es te) : QAX X W es (fun _ => te) := pa_mono h fun τ H Q ⟨σ, G, N, R, RX, hs, hg, ht, q, _⟩ => ⟨σ, G, N, R, hs, hg, ht, q⟩
theorem sx_of {st : Stmt} {te : DS} (h : QS X st te) : QSX X W st (fun _ => te) := ps_mono h fun D τ H ⟨σ, G, N, E, RX, hs, hg, ht, q, _⟩ => ⟨σ, G, N, E, hs, hg, ht, q⟩
theorem ssx_of {st : List Stmt} {te : DS} (h : QSs X st te) : QSsX X W st (fun _ => te) := pss_mono h fun D τ H ⟨σ, G, N, E, RX, hs, hg, ht, q, _⟩ => ⟨σ, G, N, E, hs, hg, ht, q⟩
/-! ### expressions -/
variable {es : List Expr} {tr : DXW → DA}
end
/-! ### blocks -/
section
variable {X : Cx} {W : WX} {st : Stmt} {rest : List Stmt} {t u : DXW → DS} {e : Expr} {te : DXW → DE} {pos : Pos}
theorem ssx_nil : QSsX X W [] (fun _ => dNext) := ssx_of qss_nil
theorem ssx_cons (h1 : QSX X W st t) (h2 : QSsX X W rest u) : QSsX X W (st :: rest) (fun RX => dSeq (t RX) (u RX)) := pss_mono (pss_cons h1 h2) fun D τ H h => by
  obtain ⟨σ, G, N, E, RX, hs, hg, ht, q, qx⟩ := h
  refine ⟨σ, G, N, _, RX, hs, hg, ht, ⟨fun σ' G' N' τ' H' h s' r => ?_, q.rt, q.bk, q.ct⟩, qx⟩
  exact ⟨σ', G', N', E, RX, r, s'.rel, h, q.le s', qx.le s'⟩
theorem ssx_one (h1 : QSX X W st t) : QSsX X W [st] t := pss_mono (pss_one h1) fun D τ H h => h
theorem sx_expr (he : QEX X W e te) (hs : swapsWith e none pos.line X.env = pure false := by rfl) : QSX X W (.Expr e pos) (fun RX => dDrop (te RX)) := ps_mono (ps_expr he hs) fun D τ H h => by
  obtain ⟨σ, G, N, E, RX, hs, hg, ht, q, qx⟩ := h
  exact ⟨σ, G, N, _, RX, hs, hg, ht, fun d G' N' v H' h s' r => q.nx _ _ _ _ _ h s' (hs.le s'.kp), qx⟩
theorem sx_if {c : Expr} {a b : List Stmt} {tc : DXW → DT} (hc : QTX X W c tc) (ha : QSsX X W a t) (hb : QSsX X W b u) : QSX X W (.If c a b pos) (fun RX => dIfS (tc RX) (t RX) (u RX)) := ps_mono (ps_if hc ha hb) fun D τ H h => by
  obtain ⟨σ, G, N, E, RX, hs, hg, ht, q, qx⟩ := h
  refine ⟨σ, G, N, _, RX, hs, hg, ht, fun b G1 N1 H1 h1 s1 => ?_, qx⟩
  cases b with
  | true => rw [if_pos rfl]; exact ⟨σ, G1, N1, E, RX, hs.le s1.kp, s1.rel, h1, q.le s1, qx.le s1⟩
  | false => rw [if_neg Bool.false_ne_true]; exact ⟨σ, G1, N1, E, RX, hs.le s1.kp, s1.rel, h1, q.le s1, qx.le s1⟩
end
/-! ### defs that may raise -/
abbrev DSpX := List D → Gp → DK → DXC → Prop
def upSpX (K : PySem.W.Frag) (sp : DSpX) : Sp := fun vs H Q E => ∃ ds G N R RX, RDs K H N ds vs ∧ RelG K H N G ∧ sp ds G R RX ∧ UpQ K H N G R Q ∧ UpXC K H N G RX E
def FnX (P : Program) (w : World) (K : PySem.W.Frag) (mg : Str → Option Value) (base : Heap) (k : Nat) (f : Addr) (fd : FuncData) (ps : List Str) (sp : DSpX) : Prop := FnOk P w K mg base (L2N.CX P w) k f fd ps (upSpX K sp)
theorem FnX.mono {P : Program} {w : World} {K : PySem.W.Frag} {mg : Str → Option Value} {base : Heap} {j k : Nat} {f : Addr} {fd : FuncData} {ps : List Str} {sp : DSpX} (F : FnX P w K mg base j f fd ps sp) (h : j ≤ k) : FnX P w K mg base k f fd ps sp := FnOk.mono F h
theorem FnX.imp {P : Program} {w : World} {K : PySem.W.Frag} {mg : Str → Option Value} {base : Heap} {k : Nat} {f : Addr} {fd : FuncData} {ps : List Str} {sp sp' : DSpX} (F : FnX P w K mg base k f fd ps sp) (h : ∀ ds G R RX, sp' ds G R RX → sp ds G R RX) : FnX P w K mg base k f fd ps sp' :=
  FnOk.imp F fun vs H Q E ⟨ds, G, N, R, RX, r1, r2, h1, q⟩ => ⟨ds, G, N, R, RX, r1, r2, h ds G R RX h1, q⟩
section
variable {P : Program} {w : World} {K : PySem.W.Frag} {mg : Str → Option Value} {base : Heap}
theorem fun_okX {x qual : Str} {st : Stmt} {f : Addr} {fd : FuncData} {M ps : List Str} {k : Nat} {sp : DSpX} (F : Fun K x qual st f fd) (S : FnScope M ps (defScope st)) (len : ∀ ds G R RX, sp ds G R RX → ds.length = ps.length)
    (hbody : ∀ (cdv : Value) (A : Around) (outer : List Env) (s : Shared) (H : Hp) (E : XK), Room k (A.deeper (envOfC qual (defScope st) s.heap.objs.size f cdv)) →
      L2N.Takes (cxOf (L2N.CX P w) P w K mg base M qual (defScope st) f cdv A outer s H E) (fun cls d _ H => E cls d H) →
      ∃ t, QSsX (cxOf (L2N.CX P w) P w K mg base M qual (defScope st) f cdv A outer s H E) (fun cls d _ H => E cls d H) (defBody st) t ∧ ∀ (ds : List D) (G : Gp) (R : DK) (RX : DXC), sp ds G R RX → t (fun cls fs _ G => RX cls fs G) { nx := fun _ G1 => ∃ G', Sub G' G1 ∧ R .non G', rt := R } (startD M.length ds) G) : FnX P w K mg base (k + 1) f fd ps sp := by
  obtain ⟨oc, od, kV, doc, pm, an, cdv, ct, osl, rfl, lk, hcd⟩ := F.ex
  refine fn_of lk hcd S (fun vs H Q E h => ?_) (fun A outer s H vs Q E hr h => ?_)
  · obtain ⟨ds, G, N, R, RX, r1, _, h1, _⟩ := h
    rw [← r1.length]; exact len ds G R RX h1
  · obtain ⟨ds, G, N, R, RX, r1, r2, h1, q, qx⟩ := h
    obtain ⟨t, ht, hq⟩ := hbody cdv A outer s H E hr (L2N.takes_of rfl rfl rfl rfl)
    refine ⟨upSX K _ t, ht, startD M.length ds, G, N, _, _, RSt.begin r1, r2, hq ds G R RX h1, ⟨fun σ' G' N' τ' H' h s' r => ?_, q, fun _ _ _ _ _ h => h.elim, fun _ _ _ _ _ h => h.elim⟩, fun cls fs σ' G' N' τ' H' d h s' _ xd => qx cls fs G' N' H' d h s' xd⟩
    obtain ⟨G2, sb, h⟩ := h
    exact q _ _ _ _ _ h (s'.trans (s'.rel.sub sb)) RD.non
end
section
variable {X : Cx} {W : WX} {k : Nat} {f : Addr} {fd : FuncData} {ps : List Str} {sp : DSpX} {x : Str} {p pos : Pos} {e : Expr} {es : List Expr} {t : DXW → DA}
/-- a wish, with what may be forgotten; a call that may raise -/
def subX (RX : DXW) (σ : Sd) : DXC := fun cls fs G => ∃ G', Sub G' G ∧ RX cls fs σ G'
def dCallX (sp : DSpX) (RX : DXW) (t : DA) : DE := fun σ G R => t σ G fun ds G1 => sp ds G1 R (subX RX σ)
theorem ex_callA (hx : ∀ σ, PassesAt (L2N.CX X.prog X.w) X σ (WE W σ)) (F : FnX X.prog X.w X.K X.mg X.base k f fd ps sp) (hr : Room k X.A) (hg : Gl X x) (hm : X.mg x = some (.ref f)) (hk : PySem.W.keepIn X.K (.ref f) = true) (hb : Binds X.K fd ps []) (ha : QAX X W (e :: es) t)
    (hdb : (x == ("__debug__" : Str)) = false := by decide) (he : starEach (e :: es) X.env = (false, eval e X.env) :: starEach es X.env := by rfl) (hpl : (backTo pos (starEach es X.env)).any (·.1) = false := by rfl) :
    QEX X W (.Call (.Name x p) (e :: es) [] pos) (fun RX => dCallX sp RX (t RX)) := pe_mono (pe_callS F hr hg hm hk hb hx ha hdb he hpl) fun τ H Q h => by
  obtain ⟨σ, G, N, R, RX, hs, hg, ht, q, qx⟩ := h
  refine ⟨σ, G, N, _, RX, hs, hg, ht, fun ds G1 N1 vs H1 h1 s1 r1 => ?_, qx⟩
  refine ⟨ds, G1, N1, R, _, r1, s1.rel, h1, q.le s1, fun cls fs G' N' H' d h s' xd => ?_⟩
  obtain ⟨G3, sb, h⟩ := h
  refine qx cls fs σ G3 N' τ H' d h ((s1.trans s').trans (s'.rel.sub sb)) ((hs.le s1.kp).le s'.kp) ?_
  cases d with
  | none => exact xd
  | some a => exact ⟨xd.1, sb.nn xd.2.1, xd.2.2⟩
end
end DL

set_option Elab.async false
set_option linter.all false
set_option maxRecDepth 100000
set_option maxHeartbeats 4000000
set_option autoImplicit false
namespace DL
open PySem PySem.Spec PyProof.Rows L2
/-! ### comprehensions whose turns may raise -/
section
variable {M : Model} {A : Around} {E : Value → Shared → Prop} {s : Shared} {env : Env}
end
/-! ### an exception leaves the block -/
section
variable {X : Cx} {pins : List (Addr × Obj)} {σ : L2.St} {H : Hp} {s s' : Shared} {B : Heap} {W : WX} {E : XK}
end
end DL

set_option Elab.async false
set_option linter.all false
set_option maxRecDepth 100000
set_option maxHeartbeats 4000000
set_option autoImplicit false
namespace DL
open PySem PySem.Spec PyProof.Rows L2
/-! ### list and dict comprehensions whose element may raise -/
section
variable {X : Cx} {pins : List (Addr × Obj)} {s : Shared} {σ : L2.St} {H : Hp} {Q : VK} {W : WX} {tg iter : Expr} {ifs : List Expr} {sc : Scope} {own : List (Str × Nat)} {g : TG} {tt : TT} {use : Option (Value → Sem Unit)} {Qf : Value → Shared → Prop}
end
/-! ### lists -/
section
variable {X : Cx} {pins : List (Addr × Obj)} {s : Shared} {σ : L2.St} {H : Hp} {Q : VK} {W : WX} {elt tg iter kx : Expr} {ifs : List Expr} {sc : Scope} {own : List (Str × Nat)} {pos pos' : Pos} {wi : TI} {g : TG} {tt : TT} {te tk : TE} {use : Option (Value → Sem Unit)} {Qf : Value → Shared → Prop}
/-! ### dicts, keys ints or texts -/
/-! ### as rules -/
variable {teσ tkσ : L2.St → TE}
end
end DL

set_option Elab.async false
set_option linter.all false
set_option maxRecDepth 100000
set_option maxHeartbeats 4000000
set_option autoImplicit false
namespace DL
open PySem PySem.Spec PyProof.Rows L2
/-! ### comprehensions by data, their element may raise; dict comprehensions -/
theorem UpX.blk {K : PySem.W.Frag} {H H' : Hp} {N N' : Ns} {G G' : Gp} {RX : DXW} {W : WX} {σ : Sd} {τ : L2.St} (q : UpX K H N G RX W) (s : Stp K H N G H' N' G') (rs : RSt K H N σ τ) : UpX K H' N' G' (fun cls fs _ G' => RX cls fs σ G') (fun cls d _ H' => W cls d τ H') :=
  fun cls fs _ G2 N2 _ H2 d r s2 _ x => q cls fs σ G2 N2 τ H2 d r (s.trans s2) (rs.le (s.trans s2).kp) x
theorem RKV.length {K : PySem.W.Frag} {H : Hp} {N : Ns} {a : List (Key × D)} {b : List (Key × V)} (h : RKV K H N a b) : a.length = b.length := Paired.length h
section
variable {X : Cx} {W : WX}
/-! ### raise, try -/
def dRaise (cls : Value) (RX : DXW) : DS := fun _ σ G => ∃ G', Sub G' G ∧ RX cls [] σ G'
theorem sx_raise {C : Addr} {bmB : List Value} {B newId initId : String} {x m : Str} {j : Nat} {p p2 pos cpos : Pos} (hc : X.calm = true) (tk : L2N.Takes X W) (F : ExcBaseFacts B newId initId bmB) (q : PySem.W.excIn X.K C bmB newId = true) (gC : X.mg x = some (.ref C)) (kC : PySem.W.keepIn X.K (.ref C) = true)
    (b : PySem.W.subIn X.K (.ref C) (.type "BaseException") = some true) (t : PySem.W.typeIn X.K (.ref C) = some (.type "type")) (hg : Gl X x) (hdb : (x == ("__debug__" : Str)) = false := by decide) :
    QSX X W (.Raise (some (.Call (.Name x p) [.Constant (.str m) j p2] [] cpos)) none pos) (fun RX => dRaise (.ref C) RX) := ps_mono (L2N.ps_raise hc tk (L2N.pmk_own F q gC kC (raises_own b t) hg hdb)) fun D τ H h => by
  obtain ⟨σ, G, N, E, RX, hs, hg, ⟨G', sb, ht⟩, q, qx⟩ := h
  exact qx _ [] σ G' N τ H none ht (hg.sub sb) hs rfl
inductive HdsD (X : Cx) : List ExceptHandler → List (Value × DS) → Prop
  | nil : HdsD X [] []
  | cons {x : Str} {c : Value} {ts : DS} {b₀ : Stmt} {suite : List Stmt} {np pos' : Pos} {hds : List ExceptHandler} {l : List (Value × DS)} (hc : Names X x c) (hsu : ∀ (a : Addr) (oe : Obj) (pn : List (Addr × Obj)), QSs (X.suite a ((a, oe) :: pn)) (b₀ :: suite) ts) (r : HdsD X hds l) :
      HdsD X (.ExceptHandler (some (.Name x np)) none (b₀ :: suite) pos' :: hds) ((c, ts) :: l)
theorem HdsD.ok {hds : List ExceptHandler} {l : List (Value × DS)} (h : HdsD X hds l) : L2N.HdsOk X hds (l.map fun q => (q.1, fun _ _ _ => upS X.K q.2)) := by
  induction h with
  | nil => exact .nil
  | cons hc hsu r ih => exact .cons hc (fun a oe cls d pn _ _ => hsu a oe pn) ih
end
/-! ### steps -/
section
variable {σ : Sd} {G : Gp} {R : DK} {RX : DXW} {E : DEnds} {ti : DI} {g : DG} {tt : DT} {tk te : DE} {tkX teX : DXW → DE} {tbX : DXW → DS} {ws : List Nat} {mk : Bool} {K : PySem.W.Frag} {l : List (Value × DS)} {cls : Value} {tr : DA} {sp : DSpX}
theorem x_raise : dRaise cls RX E σ G = ∃ G', Sub G' G ∧ RX cls [] σ G' := rfl
theorem x_callX : dCallX sp RX tr σ G R = tr σ G fun ds G1 => sp ds G1 R (subX RX σ) := rfl
theorem subX_same {fs : List (Str × D)} (h : RX cls fs σ G) : subX RX σ cls fs G := ⟨G, Sub.refl G, h⟩
end
end DL

set_option Elab.async false
set_option linter.all false
set_option maxRecDepth 100000
set_option maxHeartbeats 4000000
set_option autoImplicit false
namespace DL
open PySem PySem.Spec PyProof.Rows L2
section
variable {X : Cx}
end
end DL

set_option Elab.async false
set_option linter.all false
set_option maxRecDepth 100000
set_option maxHeartbeats 4000000
set_option autoImplicit false
namespace DL
open PySem PySem.Spec PyProof.Rows L2
section
variable {X : Cx} {e : Expr} {t : DE} {σ : Sd} {G : Gp} {R : DK}
end
end DL

set_option Elab.async false
set_option linter.all false
set_option maxRecDepth 100000
set_option maxHeartbeats 4000000
set_option autoImplicit false
namespace DL
open PySem PySem.Spec PyProof.Rows L2
/-- what was pinned is told of from here on -/
theorem inv_told {X : Cx} {pins : List (Addr × Obj)} {σ : L2.St} {H : Hp} {s : Shared} {a : Addr} {o : HO} (I : Inv X pins σ H s) (na : H a = none) (n0 : X.s_0.heap.get? a = none) (nL : a ≠ X.env.locals) (nC : ∀ v, ¬ s.heap.IsCell a v) (nP : ∀ p ∈ X.pn ++ pins, p.1 ≠ a)
    (new : ObjOk X.prog X.w (upd H a o) s.heap a o) : Inv X pins σ (upd H a o) s where
  ok := I.ok
  os := I.os
  bare := I.bare
  base := ⟨I.base.keep, I.base.slot, fun b u e n x => by rw [upd_ne (fun z => by rw [z, n0] at e; cases e)]; exact I.base.free b u e n x, I.base.there,
    fun b xs e => by have q := I.base.tups b xs e; rw [upd_ne (ne_of_none q na)]; exact q, fun b u v e => by have q := I.base.frzs b u v e; rw [upd_ne (ne_of_none q na)]; exact q,
    fun b ps e => by obtain ⟨m, q⟩ := I.base.tbls b ps e; exact ⟨m, by rw [upd_ne (ne_of_none q na)]; exact q⟩⟩
  loc := I.loc
  cell := I.cell
  free := by rw [upd_ne (Ne.symm nL)]; exact I.free
  freeC := fun x c e => by
    obtain ⟨v, hc⟩ := I.cell x c e
    rw [upd_ne (fun z => by rw [z] at hc; exact nC v hc)]
    exact I.freeC x c e
  pin := fun p hp => by
    obtain ⟨h1, h2, h3⟩ := I.pin p hp
    exact ⟨h1, by rw [upd_ne (nP p hp)]; exact h2, h3⟩
  hok := I.hok.laidN (fun _ _ q => q) na new
  len := I.len
/-- a clause that keeps what it caught: except C as e: y = e -/
def wKeep (K : PySem.W.Frag) (c : Value) (i j : Nat) (D : Ends) : WX := fun cls d σ H =>
  PySem.W.exmOne K cls c = some true ∧ ∀ a, H a = none → D.nx (((σ.set i (some (.ref a))).set j (some (.ref a))).set i none) (upd H a (ExK cls d a))
section
variable {X : Cx} {x n y : Str} {c : Value} {i j : Nat} {body : List Stmt} {np pos pos' py pe pa : Pos} {tb : WX → TS}
theorem ps_tryKeep (hs : X.stack = X.env :: X.outer) (hf : X.env.frame = some X.env.locals) (hex : X.ex = []) (hN : X.N.Nodup) (hi : X.N[i]? = some n) (hln : X.env.kindOf n = some .local) (hj : X.N[j]? = some y) (hly : Loc X.env.scope y) (hc : Names X x c)
    (hb : ∀ (W : WX) (pn : List (Addr × Obj)) (xe : Value → Shared → Prop), L2N.Takes (X.tr pn xe) W → PassesOwn (model X.prog X.w) X.A X.env xe → PSs (X.tr pn xe) body (tb W))
    (hsu : ∀ (a : Addr) (pn : List (Addr × Obj)), PSs (X.suite a pn) [.Assign [.Name y py] (.Name n pe) pa] (tSeq (tAsg (tVar i) (gName j)) tNext)) :
    PS X (.Try body [.ExceptHandler (some (.Name x np)) (some n) [.Assign [.Name y py] (.Name n pe) pa] pos'] [] [] pos) (fun D σ H => tb (wKeep X.K c i j D) D σ H) := by
  refine ⟨fun pins s σ H D I h => wpAny_Try_except (wpAny_mono ((hb (wKeep X.K c i j D) (X.pn ++ pins) _ ?kept PassesOwn.looking).run [] s σ H D (I.toTry _) h) (fun f s1 hsp => ?_) (fun e s1 he => he))⟩
  case kept =>
    have ok := I.ok
    have hfr : X.A.frames = some (X.env :: X.outer) := by rw [ok.frames, hs]
    rintro u s' ⟨a, B, sI, pins', σ', H', cls, d, rfl, J', nb, up, sky, na, os, ag, hb1, hyes⟩
    have J : Inv X pins σ' H' sI := J'.ofTry ok
    refine L2N.Sky.land L2N.Zn.steady hfr hf (by rw [← hs]; exact sky) fun h3 fl3 up3 => ?_
    have J3 : Inv X pins σ' H' { s' with heap := h3 } := J.landed nb fl3.1 (up.trans up3) os ag
    obtain ⟨oe3, vs3, he3, hz3, hd3⟩ := fl3.there
    have nfr : a ∉ frs (X.env :: X.outer) := fun hm => by
      obtain ⟨_, o', e', hnf⟩ := fl3.2.2.1.mem hm
      rw [he3] at e'; cases e'
      exact hnf _ hd3
    have nL : a ≠ X.env.locals := fun z => nfr (List.mem_filterMap.mpr ⟨X.env, List.mem_cons_self, by rw [hf, z]⟩)
    have nF : a ∉ X.fs := fun hm => by
      obtain ⟨e, he, q⟩ := List.mem_filterMap.mp hm
      exact nfr (List.mem_filterMap.mpr ⟨e, List.mem_cons_of_mem _ he, q⟩)
    -- new since the try began
    have nI : sI.heap.get? a = none := by
      cases e : sI.heap.get? a with
      | none => rfl
      | some o => exact absurd fl3.2.1 (by rw [nb a o e (by rw [hs]; exact nfr)]; simp)
    have n0 : X.s_0.heap.get? a = none := by
      cases e : X.s_0.heap.get? a with
      | none => rfl
      | some o =>
        obtain ⟨o', e'⟩ := J.base.there a o e (by rw [hex]; exact fun z => nomatch z)
        rw [nI] at e'; cases e'
    have nP : ∀ p ∈ X.pn ++ pins, p.1 ≠ a := fun p hp z => by
      have := (J.pin p hp).1
      rw [z, nI] at this; cases this
    have S3 := J3.suite he3 hd3 na nL nF
    refine wpAny_handleBy_cons (codeAny_handlers_test ?_) (by intro q; cases q)
    have LM := PySem.W.exm_one (M := model X.prog X.w) (J3.kIn) (show PySem.W.Looks (model X.prog X.w) h3 (typeOf (.ref a)) cls from fun A Q E s k q => wpAny_typeOf_ref (k _ _ he3) (by rw [hz3.1]; exact q)) hb1
    have test : ∀ {Q : Value → Shared → Prop} {E : Value → Shared → Prop}, Q c { s' with heap := h3 } → wpAny (model X.prog X.w) (X.A.mark (some (.ref a))) (eval (.Name x np) X.env) Q E { s' with heap := h3 } := fun {Q E} q => by
      obtain ⟨hg, hdbg, hm | ⟨hm, hv, hnn⟩⟩ := hc
      · exact ld_glob (X := X.suite a ((a, oe3) :: (X.pn ++ pins))) S3 hg hm q hdbg
      · exact ld_blt (X := X.suite a ((a, oe3) :: (X.pn ++ pins))) S3 hg hm hv q hnn hdbg
    refine test (LM.here (codeAny_handlers_suite_as (HandSPX.lands_againZ fl3 fun h4 fl4 up4 => ?_)))
    have J4 : Inv X pins σ' H' { s' with heap := h4 } := J.landed nb fl4.1 ((up.trans up3).trans up4) os ag
    obtain ⟨oe4, vs4, he4, hz4, hd4⟩ := fl4.there
    have S4 := J4.suite he4 hd4 na nL nF
    refine store_ok (X := X.suite a ((a, oe4) :: (X.pn ++ pins))) (v := .ref a) S4 hN hi (.inl hln) rfl (fun s5 S5 => ?_) (.inr hln)
    have hil : i < σ'.length := by rw [J.len]; exact (List.getElem?_eq_some_iff.mp hi).1
    refine wpAny_mono ((hsu a ((a, oe4) :: (X.pn ++ pins))).run [] s5 _ H' { nx := fun σ6 H6 => σ6 = (σ'.set i (some (.ref a))).set j (some (.ref a)) ∧ H6 = H', rt := fun _ _ => False, bk := fun _ _ => False, ct := fun _ _ => False } S5 ?_) (fun f s6 hsp => ?_) (fun _ _ z => False.elim z)
    · refine ⟨.ref a, ?_, rfl, rfl⟩
      exact List.getElem?_set_self hil
    · cases f with
      | next =>
        obtain ⟨σ6, H6, S6, rfl, rfl⟩ := hsp
        obtain ⟨e6, _⟩ := S6.pin (a, oe4) (List.mem_append_left _ List.mem_cons_self)
        have J6 : Inv X pins _ _ s6 := inv_told (o := ExK cls d a) (S6.unsuite ok) na n0 nL (fun v ⟨o, h1, h2⟩ => by rw [e6] at h1; cases h1; rw [hd4] at h2; cases h2) nP (exK_ok e6 hz4.1 hz4.2.1 hd4)
        exact gone_ok J6 hN hi hln fun s7 J7 => ⟨_, _, J7, hyes a na⟩
      | brk => obtain ⟨_, _, _, z⟩ := hsp; exact z.elim
      | cont => obtain ⟨_, _, _, z⟩ := hsp; exact z.elim
      | ret u => obtain ⟨_, _, _, _, _, z⟩ := hsp; exact z.elim
  have ok := I.ok
  cases f with
  | next =>
    obtain ⟨σ', H', J', q⟩ := hsp
    exact wpAny_execs_nil ⟨σ', H', J'.ofTry ok, q⟩
  | brk =>
    obtain ⟨σ', H', J', q⟩ := hsp
    exact ⟨σ', H', J'.ofTry ok, q⟩
  | cont =>
    obtain ⟨σ', H', J', q⟩ := hsp
    exact ⟨σ', H', J'.ofTry ok, q⟩
  | ret u =>
    obtain ⟨v, σ', H', J', r, q⟩ := hsp
    exact ⟨v, σ', H', J'.ofTry ok, r, q⟩
end
/-! ### by data -/
theorem RSt.unset {K : PySem.W.Frag} {H : Hp} {N : Ns} {σ : Sd} {τ : L2.St} (h : RSt K H N σ τ) (i : Nat) : RSt K H N (σ.set i none) (τ.set i none) := by
  refine ⟨by rw [List.length_set, List.length_set]; exact h.1, fun j x e => ?_⟩
  by_cases hj : i = j
  · subst hj
    by_cases hl : i < σ.length
    · rw [List.getElem?_set_self hl] at e; cases e
    · rw [List.getElem?_eq_none (by rw [List.length_set]; omega)] at e; cases e
  · rw [List.getElem?_set_ne hj] at e ⊢
    exact h.2 j x e
/-- a clause that keeps what it caught -/
def keepX (K : PySem.W.Frag) (c : Value) (i j : Nat) (E : DEnds) : DXW := fun cls fs σ G => PySem.W.exmOne K cls c = some true ∧ ∀ a, G a = none → E.nx (((σ.set i (some (.ref a))).set j (some (.ref a))).set i none) (gup G a (.ex cls fs))
theorem keep_up {K : PySem.W.Frag} {H : Hp} {N : Ns} {G : Gp} {E : DEnds} {D : Ends} {c : Value} {i j : Nat} (q : UpE K H N G E D) : UpX K H N G (keepX K c i j E) (wKeep K c i j D) := fun cls fs σ' G' N' τ' H' d r s rs xd => by
  obtain ⟨e, h⟩ := r
  refine ⟨e, fun a na => ?_⟩
  have x1 : XdOf K H' N' d fs := by cases d with | none => exact xd | some p => exact ⟨xd.1, xd.2.2⟩
  have kp := Kp.new (N := N') (u := ExK cls d a) na
  exact q.nx _ _ _ _ _ (h a (s.rel.free na)) (s.trans (Stp.new s.rel na ⟨d, upd_same, x1.le kp⟩)) ((((rs.le kp).set (RD.ref a) i).set (RD.ref a) j).unset i)
def dTryK (K : PySem.W.Frag) (tb : DXW → DS) (c : Value) (i j : Nat) : DS := fun E σ G => tb (keepX K c i j E) E σ G
section
variable {X : Cx} {x n y : Str} {c : Value} {i j : Nat} {body : List Stmt} {np pos pos' py pe pa : Pos} {tb : DXW → DS}
/-- try: .., except C as e: y = e -/
theorem qs_tryKeep (hs : X.stack = X.env :: X.outer) (hf : X.env.frame = some X.env.locals) (hex : X.ex = []) (hN : X.N.Nodup) (hi : X.N[i]? = some n) (hln : X.env.kindOf n = some .local) (hj : X.N[j]? = some y) (hly : Loc X.env.scope y) (hc : Names X x c)
    (hb : ∀ (W : WX) (pn : List (Addr × Obj)) (xe : Value → Shared → Prop), L2N.Takes (X.tr pn xe) W → PassesOwn (model X.prog X.w) X.A X.env xe → QSsX (X.tr pn xe) W body tb)
    (hsu : ∀ (a : Addr) (pn : List (Addr × Obj)), PSs (X.suite a pn) [.Assign [.Name y py] (.Name n pe) pa] (tSeq (tAsg (tVar i) (gName j)) tNext)) :
    QS X (.Try body [.ExceptHandler (some (.Name x np)) (some n) [.Assign [.Name y py] (.Name n pe) pa] pos'] [] [] pos) (dTryK X.K tb c i j) := ps_mono (ps_tryKeep (tb := fun W => upSX X.K W tb) hs hf hex hN hi hln hj hly hc hb hsu) fun D τ H h => by
  obtain ⟨σ, G, N, E, hs, hg, ht, q⟩ := h
  exact ⟨σ, G, N, E, _, hs, hg, ht, q, keep_up q⟩
end
/-! ### isinstance of what was caught -/
/-- a class as a value -/
def valC : D → Option Value | .ty n => some (.type n) | .ref a => some (.ref a) | _ => none
def valCs : List D → Option (List Value)
  | [] => some []
  | d :: ds => match valC d, valCs ds with | some v, some vs => some (v :: vs) | _, _ => none
theorem valC_ok {K : PySem.W.Frag} {H : Hp} {N : Ns} {d : D} {v : V} {u cv : Value} (r : RD K H N d v) (ru : RelV v u) (h : valC d = some cv) : u = cv := by
  cases d with
  | ty n => cases h; rw [r.of_ty] at ru; exact ru
  | ref a => cases h; rw [show v = V.ref a from r] at ru; exact ru
  | _ => cases h
theorem valCs_ok {K : PySem.W.Frag} {H : Hp} {N : Ns} : ∀ {ds : List D} {vs : List V} {us cvs : List Value}, RDs K H N ds vs → Vals vs us → valCs ds = some cvs → us = cvs
  | [], _, _, _, r, ru, h => by
    rw [r.of_nil] at ru
    cases ru
    cases h
    rfl
  | d :: ds, _, _, _, r, ru, h => by
    obtain ⟨v, vs, rfl, r1, r2⟩ := r.of_cons
    cases ru with
    | cons a b =>
      simp only [valCs] at h
      split at h
      · rename_i e1 e2
        cases h
        rw [valC_ok r1 a e1, valCs_ok r2 b e2]
      · cases h
theorem kit_yes {K : PySem.W.Frag} {C x : Addr} (hd : PySem.W.hasDictIn K x = true) (ht : PySem.W.typeIn K (.ref x) = some (.type "type")) (hs : PySem.W.subIn K (.ref C) (.ref x) = some true) : PySem.W.kitOne K (.ref C) (.ref x) = some true := by
  obtain ⟨cd, hc, _⟩ := PySem.W.any_some hd
  unfold PySem.W.kitOne
  split
  · rfl
  · show (if ((PySem.W.clsIn K x).isSome && PySem.W.typeIn K (.ref x) == some (.type "type")) = true then PySem.W.subIn K (.ref C) (.ref x) else none) = _
    rw [if_pos (by rw [hc, ht] <;> rfl)]
    exact hs
theorem kit_no {K : PySem.W.Frag} {C x : Addr} (hd : PySem.W.hasDictIn K x = true) (ht : PySem.W.typeIn K (.ref x) = some (.type "type")) (hs : PySem.W.subIn K (.ref C) (.ref x) = some false) (self : PySem.W.subIn K (.ref C) (.ref C) = some true) : PySem.W.kitOne K (.ref C) (.ref x) = some false := by
  obtain ⟨cd, hc, _⟩ := PySem.W.any_some hd
  unfold PySem.W.kitOne
  split
  · rename_i e
    have : C = x := Value.ref.inj (beq_iff_eq.mp e)
    subst this
    rw [self] at hs
    cases hs
  · show (if ((PySem.W.clsIn K x).isSome && PySem.W.typeIn K (.ref x) == some (.type "type")) = true then PySem.W.subIn K (.ref C) (.ref x) else none) = _
    rw [if_pos (by rw [hc, ht] <;> rfl)]
    exact hs
theorem kit_tyB {K : PySem.W.Frag} {C : Addr} {T : String} {b : Bool} (hm : PySem.W.kitMeta T = true) (hs : PySem.W.subIn K (.ref C) (.type T) = some b) : PySem.W.kitOne K (.ref C) (.type T) = some b := by
  unfold PySem.W.kitOne
  rw [if_neg (fun e => by cases beq_iff_eq.mp e)]
  show (if PySem.W.kitMeta T = true then PySem.W.subIn K (.ref C) (.type T) else none) = _
  rw [if_pos hm]
  exact hs
theorem kit_any1 {K : PySem.W.Frag} {t c : Value} {r : List Value} {b : Bool} (h : PySem.W.kitOne K t c = some false) (h2 : PySem.W.kitAny K t r = some b) : PySem.W.kitAny K t (c :: r) = some b := by simp only [PySem.W.kitAny, h, h2]
theorem kit_any0 {K : PySem.W.Frag} {t : Value} : PySem.W.kitAny K t [] = some false := rfl
def dIsiE (K : PySem.W.Frag) : DRn := fun ds G R => match ds with
  | [.ref a, c] => (match G a with
    | some (.ex (.ref D) []) => ExcC K D ∧ ((∃ cv b, valC c = some cv ∧ PySem.W.kitOne K (.ref D) cv = some b ∧ R (.bl b) G) ∨ ∃ cs cvs b, c = .tup cs ∧ valCs cs = some cvs ∧ PySem.W.kitAny K (.ref D) cvs = some b ∧ R (.bl b) G)
    | _ => dIsiX [.ref a, c] G R)
  | _ => dIsiX ds G R
theorem cd_isiE {X : Cx} : CallD X (.builtin "isinstance") (dIsiE X.K) := by
  intro pins s σ H xs us Q I r h
  obtain ⟨cs, G, N, R, rd, rg, h, q⟩ := h
  unfold dIsiE at h
  split at h
  · rename_i a c
    split at h
    · rename_i D eG
      obtain ⟨C, h⟩ := h
      obtain ⟨v, r', rfl, r1, r2⟩ := rd.of_cons
      obtain ⟨v', r'', rfl, r3, r4⟩ := r2.of_cons
      obtain rfl := r4.of_nil
      obtain ⟨u1, u2, rfl, ru1, ru2⟩ := vals2 r
      cases (show v = V.ref a from r1)
      cases (show u1 = Value.ref a from ru1)
      obtain ⟨_, d, hH, xd⟩ := rg a _ eG
      have hd : d = none := by cases d with | none => rfl | some p => exact absurd rfl xd.1
      subst hd
      obtain ⟨⟨oe, vs, hg, hc, hdn, hf⟩, _⟩ := I.hok a _ hH
      have J : PySem.W.InstAt s.heap a oe D none := by
        obtain ⟨oc, od, oda, osl⟩ := oe
        dsimp only at hc hdn hf
        subst hc hdn hf
        exact ⟨hg, rfl, rfl, trivial⟩
      have Z := PySem.W.handS_kitx_exc (x := a) (ox := oe) C.hg C.hk C.hs C.hd C.ha C.hn C.ht C.hm
      rcases h with ⟨cv, b, ec, ek, h⟩ | ⟨cs, cvs, b, rfl, ec, ek, h⟩
      · have := valC_ok r3 ru2 ec
        subst this
        exact PySem.W.kia_one Z I.kIn J ek (fun z => nomatch z) fun tk => ⟨.bl b, H, I.tok tk, rfl, q.at rg h (RD.bl _)⟩
      · obtain ⟨tp, vs2, rfl, sq, rvs⟩ := r3.of_tup
        cases (show u2 = Value.ref tp from ru2)
        obtain ⟨its, rv, ⟨o, h1, h2, k, h3⟩, _⟩ := I.tuple sq
        have e3 := valCs_ok rvs rv ec
        subst e3
        obtain ⟨oc, od, dt, sl⟩ := o
        simp only at h2 h3
        subst h2 h3
        exact PySem.W.kia_tup Z I.kIn J h1 ek (fun z => nomatch z) fun tk => ⟨.bl b, H, I.tok tk, rfl, q.at rg h (RD.bl _)⟩
    · exact cd_isiX pins s σ H xs us Q I r ⟨_, G, N, R, rd, rg, h, q⟩
  · exact cd_isiX pins s σ H xs us Q I r ⟨_, G, N, R, rd, rg, h, q⟩
/-! ### steps -/
section
variable {K : PySem.W.Frag} {G : Gp} {R : DK} {RX : DXW} {E : DEnds} {σ : Sd} {tb : DXW → DS} {c : Value} {i j : Nat} {a Dc : Addr} {cls : Value}
theorem x_tryK : dTryK K tb c i j E σ G = tb (keepX K c i j E) E σ G := rfl
theorem keep_go {fs : List (Str × D)} (e : PySem.W.exmOne K cls c = some true) (h : ∀ a, G a = none → E.nx (((σ.set i (some (.ref a))).set j (some (.ref a))).set i none) (gup G a (.ex cls fs))) : keepX K c i j E cls fs σ G := ⟨e, h⟩
theorem isE_one {d : D} {cv : Value} {b : Bool} (eG : G a = some (.ex (.ref Dc) [])) (C : ExcC K Dc) (ec : valC d = some cv) (ek : PySem.W.kitOne K (.ref Dc) cv = some b) (h : R (.bl b) G) : dIsiE K [.ref a, d] G R := by
  unfold dIsiE; dsimp only; rw [eG]; exact ⟨C, .inl ⟨cv, b, ec, ek, h⟩⟩
theorem isE_tup {cs : List D} {cvs : List Value} {b : Bool} (eG : G a = some (.ex (.ref Dc) [])) (C : ExcC K Dc) (ec : valCs cs = some cvs) (ek : PySem.W.kitAny K (.ref Dc) cvs = some b) (h : R (.bl b) G) : dIsiE K [.ref a, .tup cs] G R := by
  unfold dIsiE; dsimp only; rw [eG]; exact ⟨C, .inr ⟨cs, cvs, b, rfl, ec, ek, h⟩⟩
theorem isE_non {d : D} : dIsiE K [.non, d] G R = dIsiX [.non, d] G R := rfl
theorem isE_tupl {d : D} {ds : List D} : dIsiE K [.tup ds, d] G R = dIsiX [.tup ds, d] G R := rfl
theorem isE_lst {d : D} {ds : List D} : dIsiE K [.lst ds, d] G R = dIsiX [.lst ds, d] G R := rfl
end
end DL

set_option Elab.async false
set_option linter.all false
set_option maxRecDepth 100000
set_option maxHeartbeats 4000000
set_option autoImplicit false
namespace DL
open PySem PySem.Spec PyProof.Rows L2
/-! ### f(k = v, ..) of a def that may raise -/
section
variable {X : Cx} {W : WX} {k : Nat} {f : Addr} {fd : FuncData} {ps ks : List Str} {sp : DSpX} {x : Str} {p pos : Pos} {kws : List Keyword} {tk : DA}
def dCallKX (sp : DSpX) (g : List D → List D) (n : Nat) (RX : DXW) (t : DA) : DE := fun σ G R => t σ G fun ds G1 => ds.length = n ∧ sp (g ds) G1 R (subX RX σ)
theorem x_callKX {g : List D → List D} {n : Nat} {RX : DXW} {σ : Sd} {G : Gp} {R : DK} : dCallKX sp g n RX tk σ G R = tk σ G fun ds G1 => ds.length = n ∧ sp (g ds) G1 R (subX RX σ) := rfl
end
end DL

set_option Elab.async false
set_option linter.all false
set_option maxRecDepth 100000
set_option maxHeartbeats 4000000
set_option autoImplicit false
namespace DL
open PySem PySem.Spec PyProof.Rows L2
/-! ### range(i, j) -/
section
variable {X : Cx}
end
end DL

set_option Elab.async false
set_option linter.all false
set_option maxRecDepth 100000
set_option maxHeartbeats 4000000
set_option autoImplicit false
namespace DL
open PySem PySem.Spec PyProof.Rows L2
/-! ### f(a, .., k = v, ..) -/
section
variable {X : Cx} {k : Nat} {f : Addr} {fd : FuncData} {ps ks : List Str} {sp : DSp} {x : Str} {p pos : Pos} {e : Expr} {es : List Expr} {kws : List Keyword} {ta tk : DA}
theorem RDs.app {K : PySem.W.Frag} {H : Hp} {N : Ns} : ∀ {ds es : List D} {vs ws : List V}, RDs K H N ds vs → RDs K H N es ws → RDs K H N (ds ++ es) (vs ++ ws)
  | [], _, _, _, h, h2 => by rw [h.of_nil]; exact h2
  | d :: ds, es, _, ws, h, h2 => by
    obtain ⟨v, vs, rfl, r1, r2⟩ := h.of_cons
    exact RDs.cons r1 (RDs.app r2 h2)
end
/-! ### a list that is known, lent: what is known besides stays so where no list stands in it -/
section
variable {X : Cx} {k : Nat} {f : Addr} {fd : FuncData} {ps : List Str} {sp : DSp} {x : Str} {p pos : Pos} {e : Expr} {es : List Expr} {t : DA}
end
/-! ### != of lists in which known lists stand -/
end DL

set_option Elab.async false
set_option linter.all false
set_option maxRecDepth 100000
set_option maxHeartbeats 4000000
set_option autoImplicit false
namespace DL
open PySem PySem.Spec PyProof.Rows L2
/-! ### sorted of a dict whose keys are alike -/
section
variable {X : Cx} {k : Nat}
theorem toPys_str : ∀ k : List Str, toPys (k.map D.str) = some (k.map PyData.str)
  | [] => rfl
  | i :: k => by simp only [List.map_cons, toPys, toPy, toPys_str k]
theorem alike_str (ks : List Str) : PySem.W.AllAlike (ks.map PyData.str) := fun d hd d' hd' => by
  obtain ⟨a, _, rfl⟩ := List.mem_map.mp hd
  obtain ⟨b, _, rfl⟩ := List.mem_map.mp hd'
  simp [PySem.W.alike]
/-- texts sorted -/
def sortT (l : List Str) : List Str := ((l.zip (l.map PyData.str)).mergeSort (PySem.W.dataLe false (·.2))).map (·.1)
theorem sortT_perm (l : List Str) : (sortT l).Perm l := by
  unfold sortT
  refine ((List.mergeSort_perm _ _).map _).trans ?_
  rw [List.map_fst_zip (by simp)]
theorem sortT_map (l : List Str) : sortA (l.map D.str) (l.map PyData.str) = (sortT l).map D.str := by
  unfold sortA sortT
  rw [List.map_map]
  have e : (l.map D.str).zip (l.map PyData.str) = (l.zip (l.map PyData.str)).map fun p : Str × PyData => (D.str p.1, p.2) := by rw [List.zip_map_left]; rfl
  rw [e, ← List.map_mergeSort (r := PySem.W.dataLe false fun p : Str × PyData => p.2) (f := fun p : Str × PyData => (D.str p.1, p.2)) (fun a _ b _ => rfl), List.map_map]
  rfl
theorem strs_sort (l : List Str) : PySem.W.AllAlike (l.map PyData.str) ∧ (PySem.W.Sortable (l.map PyData.str) ∨ ∀ d ∈ l.map PyData.str, ∃ xs, d = .tuple xs) ∧ ∀ d ∈ l.map PyData.str, d.depth ≤ 8 := by
  refine ⟨alike_str l, .inl (.inr fun d hd => ?_), fun d hd => ?_⟩
  · obtain ⟨a, _, rfl⟩ := List.mem_map.mp hd
    exact ⟨fun z => (by cases z), fun xs z => (by cases z)⟩
  · obtain ⟨a, _, rfl⟩ := List.mem_map.mp hd
    simp [PyData.depth]
/-- the texts of a list -/
theorem sortStr_go {mk : Bool} {x : D} {l : List Str} {G : Gp} {R : DK} (e : seqOf G x = some (l.map D.str)) (h : newL mk ((sortT l).map D.str) G R) : dSortA mk [x] G R := by
  obtain ⟨h1, h2, h3⟩ := strs_sort l
  exact ⟨x, _, _, rfl, e, toPys_str l, h1, h2, h3, by rw [sortT_map]; exact h⟩
end
/-! ### range(i, j, -1) -/
section
variable {X : Cx}
end
end DL

set_option Elab.async false
set_option linter.all false
set_option maxRecDepth 100000
set_option maxHeartbeats 4000000
set_option autoImplicit false
namespace DL
open PySem PySem.Spec PyProof.Rows L2
/-! ### list(zip(xs, ys)) of two lists -/
theorem five_le {n : Nat} : n ≤ n + 4 ∧ n ≤ n + 2 ∧ n ≤ n + 3 ∧ n ≤ n ∧ n ≤ n + 1 := by omega
theorem five_lt {n : Nat} : n + 4 < n + 5 ∧ n + 2 < n + 5 ∧ n + 3 < n + 5 ∧ n < n + 5 ∧ n + 1 < n + 5 := by omega
theorem zip_apart {n l1 l2 : Nat} (h1 : l1 < n) (h2 : l2 < n) : ZipApart (n + 4) (n + 2) (n + 3) n (n + 1) l1 l2 := by
  have a1 : n + 2 ≠ n + 4 := by omega
  have a2 : n + 3 ≠ n + 4 := by omega
  have a3 : n ≠ n + 4 := by omega
  have a4 : n + 1 ≠ n + 4 := by omega
  have a5 : n + 2 ≠ n + 3 := by omega
  have a6 : n + 2 ≠ n := by omega
  have a7 : n + 2 ≠ n + 1 := by omega
  have a8 : n + 3 ≠ n := by omega
  have a9 : n + 3 ≠ n + 1 := by omega
  have a10 : n ≠ n + 1 := by omega
  have b1 : l1 ≠ n + 4 := by omega
  have b2 : l1 ≠ n + 3 := by omega
  have b3 : l1 ≠ n := by omega
  have b4 : l1 ≠ n + 1 := by omega
  have c1 : l2 ≠ n + 4 := by omega
  have c2 : l2 ≠ n + 3 := by omega
  have c3 : l2 ≠ n := by omega
  have c4 : l2 ≠ n + 1 := by omega
  exact ⟨a1, a2, a3, a4, a5, a6, a7, a8, a9, a10, b1, b2, b3, b4, c1, c2, c3, c4⟩
theorem nolen_zip : typeLookup (.type "zip") "__len__" = pure none := by rw [typeLookup_type, builtinLookup_eq_fast]; kernel_rfl
theorem nohint_zip : typeLookup (.type "zip") "__length_hint__" = pure none := by rw [typeLookup_type, builtinLookup_eq_fast]; kernel_rfl
def EnZ (z TI TO i1 i2 l1 l2 : Addr) (i : Nat) (h : Heap) : Prop := IsPair h TI (.ref i1) (.ref i2) ∧ h.IsListIter i1 l1 i ∧ h.IsListIter i2 l2 i ∧ (∃ o, h.get? TO = some o) ∧
  ((i = 0 ∧ IsZip h z TI TO .none ∧ ∃ a b, IsPair h TO a b) ∨ ∃ T f oT, 0 < i ∧ PySem.IsZipHeld h z TI TO T f ∧ h.get? T = some oT ∧ T ≠ z ∧ T ≠ i1 ∧ T ≠ i2)
def YdZ (xs ys : List V) : Nat → Hp → V → Hp → Prop := fun i H x H' => ∃ T a b, x = .ref T ∧ H T = none ∧ xs[i]? = some a ∧ ys[i]? = some b ∧ H' = upd H T (.tup [a, b])
section
variable {X : Cx} {pins : List (Addr × Obj)} {σ : L2.St} {H : Hp}
theorem pull_zip {z TI TO i1 i2 l1 l2 : Addr} (D : ZipApart z TI TO i1 i2 l1 l2) {xs ys : List V} : Pull X [z, TI, TO, i1, i2] z "zip" (min xs.length ys.length) (EnZ z TI TO i1 i2 l1 l2) (fun H => SqL X.K H l1 xs ∧ SqL X.K H l2 ys) (YdZ xs ys) where
  mem := by simp
  type := fun i s st => by
    rcases st.2.2.2.2 with ⟨_, hz, _⟩ | ⟨T, f, oT, _, hz, _⟩
    · exact ⟨_, hz, rfl⟩
    · exact ⟨_, hz, rfl⟩
  keep := fun i h h' st k ex => by
    obtain ⟨hTI, h1, h2, ⟨o, ho⟩, st⟩ := st
    refine ⟨k TI (by simp) _ hTI, h1.at fun o r => k i1 (by simp) o r, h2.at fun o r => k i2 (by simp) o r, ⟨o, k TO (by simp) _ ho⟩, ?_⟩
    rcases st with ⟨h0, hz, a, b, hTO⟩ | ⟨T, f, oT, hpos, hz, hT, n1, n2, n3⟩
    · exact .inl ⟨h0, k z (by simp) _ hz, a, b, k TO (by simp) _ hTO⟩
    · by_cases hm : T ∈ [z, TI, TO, i1, i2]
      · exact .inr ⟨T, f, oT, hpos, k z (by simp) _ hz, k T hm _ hT, n1, n2, n3⟩
      · obtain ⟨o', ho'⟩ := ex T oT hm hT
        exact .inr ⟨T, f, o', hpos, k z (by simp) _ hz, ho', n1, n2, n3⟩
  item := by
    intro A i pins s σ H E hh hlt I hf st hq
    obtain ⟨hTI, h1, h2, ⟨oTO, hoTO⟩, st⟩ := st
    obtain ⟨q1, q2⟩ := hq
    obtain ⟨its1, rv1, p1, hz1⟩ := I.list q1
    obtain ⟨its2, rv2, p2, hz2⟩ := I.list q2
    obtain ⟨x, hx⟩ : ∃ x, xs[i]? = some x := ⟨_, List.getElem?_eq_getElem (by omega)⟩
    obtain ⟨y, hy⟩ : ∃ y, ys[i]? = some y := ⟨_, List.getElem?_eq_getElem (by omega)⟩
    obtain ⟨u, hu, ru⟩ := rv1.get hx
    obtain ⟨v, hv, rv⟩ := rv2.get hy
    have lt : ∀ {c o}, s.heap.get? c = some o → s.heap.objs.size ≠ c := fun e => Nat.ne_of_gt (Heap.lt_size e)
    have n1 : s.heap.objs.size ≠ i1 := let ⟨_, e, _⟩ := h1; lt e
    have n2 : s.heap.objs.size ≠ i2 := let ⟨_, e, _⟩ := h2; lt e
    have nTI : s.heap.objs.size ≠ TI := lt hTI
    have nTO : s.heap.objs.size ≠ TO := lt hoTO
    have nz : s.heap.objs.size ≠ z := by
      rcases st with ⟨_, hz, _⟩ | ⟨T, f, oT, _, hz, _⟩
      · exact lt hz
      · exact lt hz
    have fin : ∀ (h' : Heap) (T : Addr) (f : Bool) (oT : Obj), PySem.IsZipHeld h' z TI TO T f → h'.get? T = some oT → T ≠ z → T ≠ i1 → T ≠ i2 → h'.IsListIter i1 l1 (i + 1) → h'.IsListIter i2 l2 (i + 1) → IsPair h' s.heap.objs.size u v → (∃ o, h'.get? TO = some o) → (∀ c o, c ≠ z → c ≠ TO → c ≠ i1 → c ≠ i2 → s.heap.get? c = some o → h'.get? c = some o) →
        ∃ u' x' H', some (Value.ref s.heap.objs.size) = some u' ∧ Inv X pins σ H' { s with heap := h' } ∧ RelV x' u' ∧ YdZ xs ys i H x' H' ∧ (SqL X.K H' l1 xs ∧ SqL X.K H' l2 ys) ∧ EnZ z TI TO i1 i2 l1 l2 (i + 1) h' ∧ ∀ b ∈ [z, TI, TO, i1, i2], H' b = none := by
      intro h' T f oT hz' hT t1 t2 t3 g1 g2 hp hTO' hk
      have new : ObjOk X.prog X.w (upd H s.heap.objs.size (.tup [x, y])) h' s.heap.objs.size (.tup [x, y]) := ⟨by show 2 ≤ sizeLine; decide, [u, v], .cons ru (.cons rv .nil), ⟨_, hp, rfl, _, rfl⟩⟩
      have I1 := I.turnedNew (t' := s.toks) (ch := [z, TI, TO, i1, i2]) (fun b ob hb r => hk b ob (fun z => hb (by simp [z])) (fun z => hb (by simp [z])) (fun z => hb (by simp [z])) (fun z => hb (by simp [z])) r) hf (Nat.le_refl _) new
      have hfr : H s.heap.objs.size = none := I.hok.fresh (Nat.le_refl _)
      refine ⟨_, .ref s.heap.objs.size, _, rfl, I1, rfl, ⟨_, x, y, rfl, hfr, hx, hy, rfl⟩, ⟨sqL_new q1 hfr, sqL_new q2 hfr⟩, ⟨hk _ _ D.TIz D.TITO D.TIi1 D.TIi2 hTI, g1, g2, hTO', .inr ⟨T, f, oT, by omega, hz', hT, t1, t2, t3⟩⟩, fun b hb => ?_⟩
      have hb' : b ≠ s.heap.objs.size := by
        simp only [List.mem_cons, List.not_mem_nil, or_false] at hb
        rcases hb with e | e | e | e | e <;> rw [e]
        · exact nz.symm
        · exact nTI.symm
        · exact nTO.symm
        · exact n1.symm
        · exact n2.symm
      rw [upd_ne hb']
      exact (hf b hb).1
    have hu' : its1.toArray[i]? = some u := by simpa using hu
    have hv' : its2.toArray[i]? = some v := by simpa using hv
    rcases st with ⟨h0, hz, a, b, hTO⟩ | ⟨T, f, oT, hpos, hz, hT, r1, r2, r3⟩
    · refine wpAny_pyNext_zip_item D hz hTI hTO h1 h2 p1.isList p2.isList hu' hv' fun h' a1 a2 a3 a4 a5 a6 hk => ?_
      exact fin h' s.heap.objs.size false _ a1 a5 nz n1 n2 a3 a4 a5 ⟨_, a2⟩ hk
    · refine PySem.wpAny_pyNext_zip_item_held D hz hT hTI h1 h2 p1.isList p2.isList hu' hv' fun h' a1 a3 a4 a5 a6 hk => ?_
      exact fin h' T true oT a1 (hk _ _ r1 r2 r3 hT) r1 r2 r3 a3 a4 a5 ⟨_, hk _ _ D.TOz D.TOi1 D.TOi2 hoTO⟩ fun c o c1 _ c3 c4 e => hk c o c1 c3 c4 e
  done := by
    intro A pins s σ H E hh I hf st hq
    obtain ⟨hTI, h1, h2, ⟨oTO, hoTO⟩, st⟩ := st
    obtain ⟨q1, q2⟩ := hq
    obtain ⟨its1, rv1, p1, hz1⟩ := I.list q1
    obtain ⟨its2, rv2, p2, hz2⟩ := I.list q2
    have hend : its1.toArray[min xs.length ys.length]? = none ∨ its2.toArray[min xs.length ys.length]? = none := by
      have e1 := rv1.length
      have e2 := rv2.length
      rcases Nat.le_total xs.length ys.length with h | h
      · exact .inl (Array.getElem?_eq_none (by simp; omega))
      · exact .inr (Array.getElem?_eq_none (by simp; omega))
    have fin : ∀ h', (∀ c o, c ≠ z → c ≠ TO → c ≠ i1 → c ≠ i2 → s.heap.get? c = some o → h'.get? c = some o) → Inv X pins σ H { s with heap := h' } := fun h' hk =>
      I.turnedL (t' := s.toks) (ch := [z, TI, TO, i1, i2]) (fun b ob hb r => hk b ob (fun z => hb (by simp [z])) (fun z => hb (by simp [z])) (fun z => hb (by simp [z])) (fun z => hb (by simp [z])) r) hf
    rcases st with ⟨h0, hz, a, b, hTO⟩ | ⟨T, f, oT, hpos, hz, hT, r1, r2, r3⟩
    · exact wpAny_pyNext_zip_end hh D hz hTI hTO h1 h2 p1.isList p2.isList hend fun h' hk => ⟨rfl, fin h' hk⟩
    · exact PySem.wpAny_pyNext_zip_end_held hh D hz hT hTI h1 h2 p1.isList p2.isList hend fun h' hk => ⟨rfl, fin h' fun c o c1 _ c3 c4 e => hk c o c1 c3 c4 e⟩
  self := fun A s Q E st h => by
    rcases st.2.2.2.2 with ⟨_, hz, _⟩ | ⟨T, f, oT, hpos, hz, _⟩
    · exact wpAny_pyIter_zip hz h
    · omega
  nolen := nolen_zip
  nohint := nohint_zip
  notl := by decide
  nott := by decide
variable {a b : Expr} {p p2 pos pos2 : Pos}
def tLstZip (K : PySem.W.Frag) (ta : TA) : TE := fun σ H Q => ta σ H fun vs H1 => ∃ (b c : Addr) (xs ys : List V), vs = [.ref b, .ref c] ∧ SqL K H1 b xs ∧ SqL K H1 c ys ∧ ∀ p ks H', Chain (YdZ xs ys) H1 (min xs.length ys.length) ks H' → H' p = none → Q (.ref p) (upd H' p (.lst ks))
theorem pe_listZip {ta : TA} (hc : X.calm = true) (hg : Gl X "list") (hm : X.mg "list" = none) (hg2 : Gl X "zip") (hm2 : X.mg "zip" = none) (ha : PA X [a, b] ta)
    (na : starEach [a, b] X.env = (false, eval a X.env) :: starEach [b] X.env := by rfl) (npl : (backTo pos2 (starEach [b] X.env)).any (·.1) = false := by rfl) (na2 : starEach [.Call (.Name "zip" p2) [a, b] [] pos2] X.env = (false, eval (.Call (.Name "zip" p2) [a, b] [] pos2) X.env) :: starEach [] X.env := by rfl) :
    PE X (.Call (.Name "list" p) [.Call (.Name "zip" p2) [a, b] [] pos2] [] pos) (tLstZip X.K ta) := by
  refine ⟨fun pins s σ H Q I h => ?_⟩
  refine Call_ (ld_blt I hg hm boot_list (PyProof.Rows.callWith_type1 (args_cons ?_ na2) na2))
  refine Call_ (ld_blt I hg2 hm2 PyProof.Rows.boot_zip (PyProof.Rows.callWith_type1 (thn (ha.run pos2 pins s σ H _ I h) fun us s1 ⟨vs, H1, I1, r1, q1⟩ => ?_) na npl))
  obtain ⟨b, c, xs, ys, ex, hq1, hq2, q⟩ := q1
  subst ex
  cases r1 with
  | cons r rr =>
    cases rr with
    | cons r' rr =>
    cases rr
    cases r
    cases r'
    obtain ⟨its1, rv1, p1, hz1⟩ := I1.list hq1
    obtain ⟨its2, rv2, p2, hz2⟩ := I1.list hq2
    have l1 : b < s1.heap.objs.size := by obtain ⟨_, e, _⟩ := p1.isList; exact Heap.lt_size e
    have l2 : c < s1.heap.objs.size := by obtain ⟨_, e, _⟩ := p2.isList; exact Heap.lt_size e
    refine call_zip_2 p1.isList p2.isList fun h' a1 a2 a3 a4 a5 hsz hk => args_nil ?_
    have D := zip_apart l1 l2
    have I2 : Inv X pins σ H1 { s1 with heap := h' } := I1.kept (t' := s1.toks) hk
    refine call_list_pull (pull_zip D) hc I2 (fun d hd => ?_) (fun d hd => ?_) ⟨a2, a4, a5, ⟨_, a3⟩, .inl ⟨rfl, a1, _, _, a3⟩⟩ ⟨hq1, hq2⟩ (Nat.le_trans (Nat.min_le_left _ _) hz1) q
    · have hle : s1.heap.objs.size ≤ d := by
        simp only [List.mem_cons, List.not_mem_nil, or_false] at hd
        obtain ⟨f1, f2, f3, f4, f5⟩ := five_le (n := s1.heap.objs.size)
        rcases hd with e | e | e | e | e <;> rw [e] <;> assumption
      exact I1.fpOk hle (I1.hok.fresh hle)
    · show d < h'.objs.size
      rw [hsz]
      simp only [List.mem_cons, List.not_mem_nil, or_false] at hd
      obtain ⟨f1, f2, f3, f4, f5⟩ := five_lt (n := s1.heap.objs.size)
      rcases hd with e | e | e | e | e <;> rw [e] <;> assumption
theorem zipD_eq : ∀ xs ys : List D, zipD xs ys = (xs.zip ys).map fun p => .tup [p.1, p.2]
  | [], [] => rfl
  | [], _ :: _ => rfl
  | _ :: _, [] => rfl
  | x :: xs, y :: ys => by
    show D.tup [x, y] :: zipD xs ys = _
    rw [zipD_eq xs ys]
    rfl
theorem chain_upZ {K : PySem.W.Frag} {H : Hp} {N : Ns} {G : Gp} {ds es : List D} {xs ys : List V} (rg : RelG K H N G) (rd : RDs K H N ds xs) (re : RDs K H N es ys) : ∀ {i : Nat} {ks : List V} {H' : Hp}, i ≤ min ds.length es.length → Chain (YdZ xs ys) H i ks H' → Stp K H N G H' N G ∧ RDs K H' N ((zipD ds es).take i) ks
  | 0, _, _, _, h => by
    obtain ⟨rfl, rfl⟩ := h
    exact ⟨Stp.refl rg, by simpa using RDs.nil⟩
  | i + 1, _, _, hi, h => by
    obtain ⟨ks0, H0, x, h1, ⟨T, y, z, rfl, hT, hy, hz, rfl⟩, rfl⟩ := h
    obtain ⟨s1, r1⟩ := chain_upZ rg rd re (by omega) h1
    have s2 : Stp K H0 N G (upd H0 T (.tup [y, z])) N G := Stp.new0 s1.rel hT
    obtain ⟨d, hd⟩ : ∃ d, ds[i]? = some d := ⟨_, List.getElem?_eq_getElem (by omega)⟩
    obtain ⟨e, he⟩ : ∃ e, es[i]? = some e := ⟨_, List.getElem?_eq_getElem (by omega)⟩
    obtain ⟨y', hy', rdy⟩ := rd.get hd
    obtain ⟨z', hz', rdz⟩ := re.get he
    rw [hy] at hy'
    rw [hz] at hz'
    cases hy'
    cases hz'
    refine ⟨s1.trans s2, ?_⟩
    have ez : (zipD ds es)[i]? = some (.tup [d, e]) := by rw [zipD_eq, List.getElem?_map, (List.getElem?_zip_eq_some (z := (d, e))).mpr ⟨hd, he⟩]; rfl
    rw [List.take_succ, ez]
    refine RDs.append (r1.le s2.kp) (RDs.cons (RD.tup (.inl (.inl upd_same)) ?_) RDs.nil)
    exact RDs.cons (rdy.le (s1.trans s2).kp) (RDs.cons (rdz.le (s1.trans s2).kp) RDs.nil)
def dListZip (mk : Bool) (ta : DA) : DE := fun σ G R => ta σ G fun cs G1 => match cs with | [x, y] => (match lstOf G1 x, lstOf G1 y with | some ds, some es => newL mk (zipD ds es) G1 R | _, _ => False) | _ => False
theorem qe_listZip (mk : Bool) {ta : DA} (hc : X.calm = true) (hg : Gl X "list") (hm : X.mg "list" = none) (hg2 : Gl X "zip") (hm2 : X.mg "zip" = none) (ha : QA X [a, b] ta)
    (na : starEach [a, b] X.env = (false, eval a X.env) :: starEach [b] X.env := by rfl) (npl : (backTo pos2 (starEach [b] X.env)).any (·.1) = false := by rfl) (na2 : starEach [.Call (.Name "zip" p2) [a, b] [] pos2] X.env = (false, eval (.Call (.Name "zip" p2) [a, b] [] pos2) X.env) :: starEach [] X.env := by rfl) :
    QE X (.Call (.Name "list" p) [.Call (.Name "zip" p2) [a, b] [] pos2] [] pos) (dListZip mk ta) := pe_mono (pe_listZip hc hg hm hg2 hm2 ha na npl na2) fun τ H Q h => by
  obtain ⟨σ, G, N, R, hs, hg, ht, q⟩ := h
  refine ⟨σ, G, N, _, hs, hg, ht, fun cs G1 N1 vs H1 h1 s1 r1 => ?_⟩
  split at h1
  · rename_i x y
    obtain ⟨v, vr, rfl, r2, r3⟩ := r1.of_cons
    obtain ⟨v', vr', rfl, r4, r5⟩ := r3.of_cons
    rw [r5.of_nil]
    split at h1
    · rename_i ds es e1 e2
      obtain ⟨b, us, rfl, sq, rd⟩ := lstOf_ok s1.rel r2 e1
      obtain ⟨c, ws, rfl, sq', re⟩ := lstOf_ok s1.rel r4 e2
      refine ⟨b, c, us, ws, rfl, sq, sq', fun pp ks H' ch np => ?_⟩
      have el : min us.length ws.length = min ds.length es.length := by rw [rd.length, re.length]
      obtain ⟨st, rk⟩ := chain_upZ s1.rel rd re (i := min us.length ws.length) (Nat.le_of_eq el) ch
      have ez : (zipD ds es).length = min us.length ws.length := by rw [zipD_eq, List.length_map, List.length_zip, el]
      rw [← ez, List.take_length] at rk
      exact newL_ok st.rel rk h1 (q.le (s1.trans st)) np
    · exact h1.elim
  · exact h1.elim
theorem x_listZip {mk : Bool} {ta : DA} {σ : Sd} {G : Gp} {R : DK} : dListZip mk ta σ G R = ta σ G fun cs G1 => match cs with | [x, y] => (match lstOf G1 x, lstOf G1 y with | some ds, some es => newL mk (zipD ds es) G1 R | _, _ => False) | _ => False := rfl
end
end DL

set_option Elab.async false
set_option linter.all false
set_option maxRecDepth 100000
set_option maxHeartbeats 4000000
set_option autoImplicit false
namespace DL
open PySem PySem.Spec PyProof.Rows L2
/-! ### len of a dict whose keys are tuples, or of any dict told by its entries -/
section
variable {X : Cx}
end
end DL

set_option Elab.async false
set_option linter.all false
set_option maxRecDepth 100000
set_option maxHeartbeats 4000000
set_option autoImplicit false
namespace DL
open PySem PySem.Spec PyProof.Rows L2
/-! ### tuple * int, by 0 and 1 too -/
section
variable {X : Cx}
end
end DL

set_option Elab.async false
set_option linter.all false
set_option maxRecDepth 100000
set_option maxHeartbeats 4000000
set_option autoImplicit false
namespace K52
open PySem PySem.Spec PyProof.Rows L2 DL
local macro_rules | `(tactic| walk_at "d") => `(tactic| dsimp only [dSeq, dNext, dIfS, dRet, dRetN, dAsg, dName, dVar, dC, dOp, dUn, dChain, dB, dAnd, dOr, dNot, dAndV, dOrV, dNotV, dIf, dNil, dCons, dTup, dLst, newL, dCallB, dCall, dCallK, dDrop, dAug, dAugS, dSub, dM, dM0, dSlice, dNoPart, dPart, dLc, dYes, dFor, dIter, dRng1, dEnum, dZipM, srcD, dStar, dInK, dIxK, dLenSet, dRev,
  startD, wipeD, setAll, dNames, List.map_cons, List.map_nil, List.length_cons, List.length_nil, List.replicate, List.cons_append, List.nil_append, List.append_nil, List.getElem?_cons_zero, List.getElem?_cons_succ, List.set_cons_zero, List.set_cons_succ, List.map, Nat.zero_add, Nat.reduceAdd, Nat.reduceSub, Nat.sub_self, Nat.succ_sub_succ_eq_sub])
local macro_rules | `(tactic| walk_at "o") => `(tactic| simp only [dAdd_ii, dAdd_ss, dAdd_tt, dAdd_ll, dMinus_ii, dMul_ii, dMod_ii, dFdiv_ii, dPow_ii, dShl_ii, dNeg_i, dIadd_ii, dLt_ii, dLe_ii, dGt_ii, dGe_ii, dEq_ii, dNe_ii, dEq_ss, dNe_ss, dEq_bb, dNe_bb, dIs_n, dIsNot_n, dMax2_ii, dMin2_ii, dTuple_t, dTuple_l, dList_t, dList_l, dIx_t, dIx_l, dIx_s, dSl_t, dSl_l, dSl_s, newL_f, len_tup, len_lst])
local macro_rules | `(tactic| walk_at "w") => `(tactic| dsimp only [x_var, x_c, x_op, x_un, x_b, x_and, x_or, x_not, x_chain, x_andV, x_orV, x_notV, x_if, x_nil, x_cons, x_tup, x_lst0, x_lst1, x_callB, x_call, x_callK, x_next, x_seq, x_break, x_cont, x_drop, x_ret, x_ifS, x_asg, x_name, x_names, x_sub, x_aug, x_augS, x_for, x_lc0, x_lc1, x_yes, x_noPart, x_part, x_slice, x_iter, it_t, it_l, it_n, it_s, it_r, x_rng1, x_enum, x_rev, x_m, x_m0, x_mX, x_zip, x_star_t, x_star_l, x_lenSet, x_forgo0, x_lcgo0, x_while, x_par, x_sortK,
  br_t, br_f, isB_bl, isI_int, isN_some, slo_some, atL_lst, ix_t, ix_l, ix_n,
  dAdd_ii, dAdd_ss, dAdd_tt, dAdd_ll, dMinus_ii, dMul_ii, dMod_ii, dFdiv_ii, dPow_ii, dShl_ii, dNeg_i, dIadd_ii, dLt_ii, dLe_ii, dGt_ii, dGe_ii, ltE_ii, ltE_ss, srcD, isi_i, isi_s, isi_b, isi_n, isi_t, isi_nt, isi_l, isi2_i, isi2_s, isi2_b, isi2_n, isi2_t, isi2_nt, isi2_l, inon_n, inon_i, inon_s, inon_b, inon_t, inon_l, inon_r, dEq_ii, dNe_ii, dEq_ss, dNe_ss, dEq_bb, dNe_bb, dIs_n, dIsNot_n, dMax2_ii, dMin2_ii, dTuple_t, dTuple_l, dList_t, dList_l, dSl_t, dSl_l, dSl_s, newL_f, newL_t, app_r, int_b, int_i, strI_i, strX_i, strX_s,
  startD, wipeD, setAll, permL, List.filterMap, List.map_cons, List.map_nil, List.length_cons, List.length_nil, List.replicate, List.cons_append, List.nil_append, List.append_nil, List.getElem?_cons_zero, List.getElem?_cons_succ, List.set_cons_zero, List.set_cons_succ, List.map, Nat.zero_add, Nat.reduceAdd, Nat.reduceSub, Nat.sub_self, Nat.succ_sub_succ_eq_sub])
local macro_rules | `(tactic| walk_at "v") => `(tactic| simp only [ofString_inj, String.reduceEq, at_0, at_1, at_2, at_3, at_4, at_5, isN_some, isBB_bl, isB_bl, br_t, br_f, br_not, br_and, br_or, br_dec, ix_r, len_tup, len_lst, len_nt, ltE_key, gup_gup, gup_same, starD_one, cut1, cut2, kt1, kt2, kt3, kt4, kt5, kt6, isTy, String.reduceBEq, Bool.or_false, Bool.false_or, Bool.true_or, Bool.or_true, Bool.and_false, Bool.false_and, Bool.true_and, Bool.and_true, Bool.not_true, Bool.not_false, decide_true, decide_false, eq_self_iff_true, Bool.false_eq_true, Int.reduceAdd, Int.add_zero, if_true, if_false, true_and, and_true])
local macro_rules | `(tactic| walk_at "side") => `(tactic| first | with_reducible assumption | omega | exact mty_up | exact True.intro | (simp only [List.mem_cons, ofString_inj, String.reduceEq, true_or, or_true, List.length_map]; done) | with_reducible exact (rfl : (_ : Nat) = _) | exact (rfl : (_ : Option String) = _) | (refine small_line ?_; omega) | (walk_at "ll"; first | omega | (refine small_line ?_; omega) | fail) | (exact log_small (by omega)) | fail)
local macro_rules | `(tactic| walk_at "x") => `(tactic| fail)
local macro_rules | `(tactic| walk_at "go") => `(tactic| repeat' (first | dsimp only [x_var, x_c, x_op, x_un, x_b, x_and, x_or, x_not, x_chain, x_andV, x_orV, x_notV, x_if, x_nil, x_cons, x_tup, x_lst0, x_lst1, x_callB, x_call, x_callK, x_next, x_seq, x_break, x_cont, x_drop, x_ret, x_ifS, x_asg, x_name, x_names, x_sub, x_aug, x_augS, x_for, x_lc0, x_lc1, x_yes, x_noPart, x_part, x_slice, x_iter, it_t, it_l, it_n, it_s, it_r, x_rng1, x_enum, x_rev, x_m, x_m0, x_mX, x_zip, x_star_t, x_star_l, x_lenSet, x_forgo0, x_lcgo0, x_while, x_par, x_sortK, br_t, br_f, isB_bl, isI_int, isN_some, slo_some, atL_lst, ix_t, ix_l, ix_n, dAdd_ii, dAdd_ss, dAdd_tt, dAdd_ll, dMinus_ii, dMul_ii, dMod_ii, dFdiv_ii, dPow_ii, dShl_ii, dNeg_i, dIadd_ii, dLt_ii, dLe_ii, dGt_ii, dGe_ii, ltE_ii, ltE_ss, srcD, isi_i, isi_s, isi_b, isi_n, isi_t, isi_nt, isi_l, isi2_i, isi2_s, isi2_b, isi2_n, isi2_t, isi2_nt, isi2_l, inon_n, inon_i, inon_s, inon_b, inon_t, inon_l, inon_r, dEq_ii, dNe_ii, dEq_ss, dNe_ss, dEq_bb, dNe_bb, dIs_n, dIsNot_n, dMax2_ii, dMin2_ii, dTuple_t, dTuple_l, dList_t, dList_l, dSl_t, dSl_l, dSl_s, newL_f, newL_t, app_r, int_b, int_i, strI_i, strX_i, strX_s, startD, wipeD, setAll, permL, List.filterMap, List.map_cons, List.map_nil, List.length_cons, List.length_nil, List.replicate, List.cons_append, List.nil_append, List.append_nil, List.getElem?_cons_zero, List.getElem?_cons_succ, List.set_cons_zero, List.set_cons_succ, List.map, Nat.zero_add, Nat.reduceAdd, Nat.reduceSub, Nat.sub_self, Nat.succ_sub_succ_eq_sub] | simp only [ofString_inj, String.reduceEq, at_0, at_1, at_2, at_3, at_4, at_5, isN_some, isBB_bl, isB_bl, br_t, br_f, br_not, br_and, br_or, br_dec, ix_r, len_tup, len_lst, len_nt, ltE_key, gup_gup, gup_same, starD_one, cut1, cut2, kt1, kt2, kt3, kt4, kt5, kt6, isTy, String.reduceBEq, Bool.or_false, Bool.false_or, Bool.true_or, Bool.or_true, Bool.and_false, Bool.false_and, Bool.true_and, Bool.and_true, Bool.not_true, Bool.not_false, decide_true, decide_false, eq_self_iff_true, Bool.false_eq_true, Int.reduceAdd, Int.add_zero, if_true, if_false, true_and, and_true] | walk_at "x" | with_reducible refine kont_go ?_ | with_reducible refine rt_sub (by assumption) ?_ | with_reducible refine rt_lst (by assumption) ?_ | with_reducible refine rt_drop (by assumption) ?_ | with_reducible refine rt_keep (by assumption) (by assumption) ?_ | with_reducible refine rt_same ?_ | (refine fun (p : Addr) (_ : _ = none) => ?_) | refine join_gor gup_same rfl (by walk_at "side") ?_ | with_reducible refine lc_cons ?_ | with_reducible refine for_cons ?_ | refine join_go rfl (by walk_at "side") ?_ | refine And.intro (by first | with_reducible assumption | omega | exact mty_up | exact True.intro | (simp only [List.mem_cons, ofString_inj, String.reduceEq, true_or, or_true, List.length_map]; done) | with_reducible exact (rfl : (_ : Nat) = _) | exact (rfl : (_ : Option String) = _) | (refine small_line ?_; omega) | (walk_at "ll"; first | omega | (refine small_line ?_; omega) | fail) | (exact log_small (by omega)) | fail) ?_ | fail))
def topS (i : Nat) : Stmt := PySem.Challenge.pw_steploft_k52_rows_that_are_none.main.body.getD i (.Pass ⟨0, 0, 0, 0⟩)
abbrev s_nexts_of : Stmt := topS 11
abbrev N_nexts_of : List Str := ["further"]
theorem sc_nexts_of : FnScope N_nexts_of ["further"] (defScope s_nexts_of) := ⟨rfl, rfl, rfl, by decide +kernel, rfl, by decide +kernel, by decide +kernel⟩
abbrev s_is_unlike : Stmt := topS 13
abbrev N_is_unlike : List Str := ["one", "other"]
theorem sc_is_unlike : FnScope N_is_unlike ["one", "other"] (defScope s_is_unlike) := ⟨rfl, rfl, rfl, by decide +kernel, rfl, by decide +kernel, by decide +kernel⟩
abbrev s_parted : Stmt := topS 14
abbrev N_parted : List Str := ["store", "one", "other", "rows", "starts", "met", "waiting", "at", "word", "first", "second", "pairs", "truth"]
theorem sc_parted : FnScope N_parted ["store", "one", "other"] (defScope s_parted) := ⟨rfl, rfl, rfl, by decide +kernel, rfl, by decide +kernel, by decide +kernel⟩
abbrev s__law_bag : Stmt := topS 16
abbrev N__law_bag : List Str := ["cell", "at"]
theorem sc__law_bag : FnScope N__law_bag ["cell", "at"] (defScope s__law_bag) := ⟨rfl, rfl, rfl, by decide +kernel, rfl, by decide +kernel, by decide +kernel⟩
abbrev s__law_draw : Stmt := topS 17
abbrev N__law_draw : List Str := ["bag", "many", "found"]
theorem sc__law_draw : FnScope N__law_draw ["bag", "many"] (defScope s__law_draw) := ⟨rfl, rfl, rfl, by decide +kernel, rfl, by decide +kernel, by decide +kernel⟩
abbrev s__law_top : Stmt := topS 18
abbrev N__law_top : List Str := ["kit"]
theorem sc__law_top : FnScope N__law_top ["kit"] (defScope s__law_top) := ⟨rfl, rfl, rfl, by decide +kernel, rfl, by decide +kernel, by decide +kernel⟩
abbrev s__law_place : Stmt := topS 20
abbrev N__law_place : List Str := ["bag", "kit", "at"]
theorem sc__law_place : FnScope N__law_place ["bag", "kit"] (defScope s__law_place) := ⟨rfl, rfl, rfl, by decide +kernel, rfl, by decide +kernel, by decide +kernel⟩
abbrev s__law_word : Stmt := topS 21
abbrev N__law_word : List Str := ["bag", "kit", "top"]
theorem sc__law_word : FnScope N__law_word ["bag", "kit"] (defScope s__law_word) := ⟨rfl, rfl, rfl, by decide +kernel, rfl, by decide +kernel, by decide +kernel⟩
abbrev s__law_place_text : Stmt := topS 22
abbrev N__law_place_text : List Str := ["spot"]
theorem sc__law_place_text : FnScope N__law_place_text ["spot"] (defScope s__law_place_text) := ⟨rfl, rfl, rfl, by decide +kernel, rfl, by decide +kernel, by decide +kernel⟩
abbrev s__law_order_text : Stmt := topS 23
abbrev N__law_order_text : List Str := ["one", "some", "part"]
theorem sc__law_order_text : FnScope N__law_order_text ["one"] (defScope s__law_order_text) := ⟨rfl, rfl, rfl, by decide +kernel, rfl, by decide +kernel, by decide +kernel⟩
abbrev s__law_key : Stmt := topS 24
abbrev N__law_key : List Str := ["one"]
theorem sc__law_key : FnScope N__law_key ["one"] (defScope s__law_key) := ⟨rfl, rfl, rfl, by decide +kernel, rfl, by decide +kernel, by decide +kernel⟩
abbrev s__law_to : Stmt := topS 25
abbrev N__law_to : List Str := ["one"]
theorem sc__law_to : FnScope N__law_to ["one"] (defScope s__law_to) := ⟨rfl, rfl, rfl, by decide +kernel, rfl, by decide +kernel, by decide +kernel⟩
abbrev s__law_order : Stmt := topS 26
abbrev N__law_order : List Str := ["bag", "kit", "word", "one", "other", "to", "op"]
theorem sc__law_order : FnScope N__law_order ["bag", "kit", "word"] (defScope s__law_order) := ⟨rfl, rfl, rfl, by decide +kernel, rfl, by decide +kernel, by decide +kernel⟩
abbrev s__law_orders : Stmt := topS 27
abbrev N__law_orders : List Str := ["bag", "kit", "words", "found", "word", "one", "k", "other"]
theorem sc__law_orders : FnScope N__law_orders ["bag", "kit"] (defScope s__law_orders) := ⟨rfl, rfl, rfl, by decide +kernel, rfl, by decide +kernel, by decide +kernel⟩
abbrev s__law_few : Stmt := topS 28
abbrev N__law_few : List Str := ["bag", "names"]
theorem sc__law_few : FnScope N__law_few ["bag"] (defScope s__law_few) := ⟨rfl, rfl, rfl, by decide +kernel, rfl, by decide +kernel, by decide +kernel⟩
abbrev s__law_chain : Stmt := topS 29
abbrev N__law_chain : List Str := ["bag", "kit", "many", "pool", "rows", "k", "left", "way", "ahead", "onward", "j"]
theorem sc__law_chain : FnScope N__law_chain ["bag", "kit", "many", "pool"] (defScope s__law_chain) := ⟨rfl, rfl, rfl, by decide +kernel, rfl, by decide +kernel, by decide +kernel⟩
abbrev s__law_names : Stmt := topS 30
abbrev N__law_names : List Str := ["bag", "many", "letters", "found", "k", "size", "one", "way", "j"]
theorem sc__law_names : FnScope N__law_names ["bag", "many"] (defScope s__law_names) := ⟨rfl, rfl, rfl, by decide +kernel, rfl, by decide +kernel, by decide +kernel⟩
abbrev s__law_put : Stmt := topS 32
abbrev N__law_put : List Str := ["onward", "numbers", "one"]
theorem sc__law_put : FnScope N__law_put ["onward", "numbers"] (defScope s__law_put) := ⟨rfl, rfl, rfl, by decide +kernel, rfl, by decide +kernel, by decide +kernel⟩
abbrev s__law_laid : Stmt := topS 33
abbrev N__law_laid : List Str := ["bag", "kit", "most", "pool", "prog", "left", "numbers", "rows", "k", "names", "name"]
theorem sc__law_laid : FnScope N__law_laid ["bag", "kit", "most"] (defScope s__law_laid) := ⟨rfl, rfl, rfl, by decide +kernel, rfl, by decide +kernel, by decide +kernel⟩
abbrev s__law_asked : Stmt := topS 34
abbrev N__law_asked : List Str := ["hold", "one", "other", "caught", "e", "odd"]
theorem sc__law_asked : FnScope N__law_asked ["hold", "one", "other"] (defScope s__law_asked) := ⟨rfl, rfl, rfl, by decide +kernel, rfl, by decide +kernel, by decide +kernel⟩
abbrev s__law_right : Stmt := topS 35
abbrev N__law_right : List Str := ["bag", "hold", "many", "turn", "none", "also"]
theorem sc__law_right : FnScope N__law_right ["bag"] (defScope s__law_right) := ⟨rfl, rfl, rfl, by decide +kernel, rfl, by decide +kernel, by decide +kernel⟩
abbrev s_law : Stmt := topS 36
abbrev N_law : List Str := ["script", "k"]
theorem sc_law : FnScope N_law ["script"] (defScope s_law) := ⟨rfl, rfl, rfl, by decide +kernel, rfl, by decide +kernel, by decide +kernel⟩
theorem ll_0 : (Str.ofString "steploft.errors").length = 15 := by rw [len_lit]; rfl
theorem ll_1 : (Str.ofString "steploft.ways").length = 13 := by rw [len_lit]; rfl
theorem ll_2 : (Str.ofString "steploft.stores").length = 15 := by rw [len_lit]; rfl
theorem ll_3 : (Str.ofString "law_steploft_k52_rows_that_are_none").length = 35 := by rw [len_lit]; rfl
theorem ll_4 : (Str.ofString "abcdefghijklmnopqrstuvwxyz").length = 26 := by rw [len_lit]; rfl
theorem ll_5 : (Str.ofString "go").length = 2 := by rw [len_lit]; rfl
theorem ll_6 : (Str.ofString "test").length = 4 := by rw [len_lit]; rfl
theorem ll_7 : (Str.ofString "a").length = 1 := by rw [len_lit]; rfl
theorem ll_8 : (Str.ofString "b").length = 1 := by rw [len_lit]; rfl
theorem ll_9 : (Str.ofString "c").length = 1 := by rw [len_lit]; rfl
theorem ll_10 : (Str.ofString "x").length = 1 := by rw [len_lit]; rfl
theorem ll_11 : (Str.ofString "h").length = 1 := by rw [len_lit]; rfl
theorem ll_12 : (Str.ofString "end").length = 3 := by rw [len_lit]; rfl
theorem ll_13 : (Str.ofString "nop").length = 3 := by rw [len_lit]; rfl
theorem ll_14 : (Str.ofString "start").length = 5 := by rw [len_lit]; rfl
theorem ll_15 : (Str.ofString "abcdefgh").length = 8 := by rw [len_lit]; rfl
theorem ll_16 : (Str.ofString "alu").length = 3 := by rw [len_lit]; rfl
theorem ll_17 : (Str.ofString "abcdefgg").length = 8 := by rw [len_lit]; rfl
theorem ll_18 : (Str.ofString "ab").length = 2 := by rw [len_lit]; rfl
theorem ll_19 : (Str.ofString "hid").length = 3 := by rw [len_lit]; rfl
theorem ll_20 : (Str.ofString "put").length = 3 := by rw [len_lit]; rfl
theorem ll_21 : (Str.ofString "store").length = 5 := by rw [len_lit]; rfl
theorem ll_22 : (Str.ofString "no such text").length = 12 := by rw [len_lit]; rfl
theorem ll_23 : (Str.ofString "no instruction has this name").length = 28 := by rw [len_lit]; rfl
theorem ll_24 : (Str.ofString "no such row").length = 11 := by rw [len_lit]; rfl
theorem ll_25 : (Str.ofString "reg").length = 3 := by rw [len_lit]; rfl
theorem ll_26 : (Str.ofString " ").length = 1 := by rw [len_lit]; rfl
theorem ll_27 : (Str.ofString "add").length = 3 := by rw [len_lit]; rfl
theorem ll_28 : (Str.ofString "sub").length = 3 := by rw [len_lit]; rfl
theorem ll_29 : (Str.ofString "and").length = 3 := by rw [len_lit]; rfl
theorem ll_30 : (Str.ofString "or").length = 2 := by rw [len_lit]; rfl
theorem ll_31 : (Str.ofString "xor").length = 3 := by rw [len_lit]; rfl
theorem ll_32 : (Str.ofString "less").length = 4 := by rw [len_lit]; rfl
theorem ll_33 : (Str.ofString "same").length = 4 := by rw [len_lit]; rfl
theorem ll_34 : (Str.ofString "").length = 0 := by rw [len_lit]; rfl
theorem ll_35 : (Str.ofString "move").length = 4 := by rw [len_lit]; rfl
theorem ll_36 : (Str.ofString "load").length = 4 := by rw [len_lit]; rfl
theorem ll_37 : (Str.ofString "zzzzzzzz").length = 8 := by rw [len_lit]; rfl
structure Ad where
  f_nexts_of : Addr
  fd_nexts_of : FuncData
  f_is_unlike : Addr
  fd_is_unlike : FuncData
  f_parted : Addr
  fd_parted : FuncData
  f__law_bag : Addr
  fd__law_bag : FuncData
  f__law_draw : Addr
  fd__law_draw : FuncData
  f__law_top : Addr
  fd__law_top : FuncData
  f__law_place : Addr
  fd__law_place : FuncData
  f__law_word : Addr
  fd__law_word : FuncData
  f__law_place_text : Addr
  fd__law_place_text : FuncData
  f__law_order_text : Addr
  fd__law_order_text : FuncData
  f__law_key : Addr
  fd__law_key : FuncData
  f__law_to : Addr
  fd__law_to : FuncData
  f__law_order : Addr
  fd__law_order : FuncData
  f__law_orders : Addr
  fd__law_orders : FuncData
  f__law_few : Addr
  fd__law_few : FuncData
  f__law_chain : Addr
  fd__law_chain : FuncData
  f__law_names : Addr
  fd__law_names : FuncData
  f__law_put : Addr
  fd__law_put : FuncData
  f__law_laid : Addr
  fd__law_laid : FuncData
  f__law_asked : Addr
  fd__law_asked : FuncData
  f__law_right : Addr
  fd__law_right : FuncData
  f_law : Addr
  fd_law : FuncData
  x_LoftError : Addr
  x_TooMany : Addr
  x_NoRoom : Addr
  x_NoRow : Addr
  x_NoLoft : Addr
  x_NoCells : Addr
  x_NotStill : Addr
  x_NoText : Addr
  x_NoName : Addr
structure Tx (w : World) (K : PySem.W.Frag) (mg : Str → Option Value) (a : Ad) : Prop where
  F_nexts_of : Fun K "nexts_of" "nexts_of" s_nexts_of a.f_nexts_of a.fd_nexts_of
  b_nexts_of : Binds K a.fd_nexts_of ["further"] []
  g_nexts_of : mg "nexts_of" = some (.ref a.f_nexts_of)
  F_is_unlike : Fun K "is_unlike" "is_unlike" s_is_unlike a.f_is_unlike a.fd_is_unlike
  b_is_unlike : Binds K a.fd_is_unlike ["one", "other"] []
  g_is_unlike : mg "is_unlike" = some (.ref a.f_is_unlike)
  F_parted : Fun K "parted" "parted" s_parted a.f_parted a.fd_parted
  b_parted : Binds K a.fd_parted ["store", "one", "other"] []
  g_parted : mg "parted" = some (.ref a.f_parted)
  F__law_bag : Fun K "_law_bag" "_law_bag" s__law_bag a.f__law_bag a.fd__law_bag
  b__law_bag : Binds K a.fd__law_bag ["cell", "at"] []
  g__law_bag : mg "_law_bag" = some (.ref a.f__law_bag)
  F__law_draw : Fun K "_law_draw" "_law_draw" s__law_draw a.f__law_draw a.fd__law_draw
  b__law_draw : Binds K a.fd__law_draw ["bag", "many"] []
  g__law_draw : mg "_law_draw" = some (.ref a.f__law_draw)
  F__law_top : Fun K "_law_top" "_law_top" s__law_top a.f__law_top a.fd__law_top
  b__law_top : Binds K a.fd__law_top ["kit"] []
  g__law_top : mg "_law_top" = some (.ref a.f__law_top)
  F__law_place : Fun K "_law_place" "_law_place" s__law_place a.f__law_place a.fd__law_place
  b__law_place : Binds K a.fd__law_place ["bag", "kit"] []
  g__law_place : mg "_law_place" = some (.ref a.f__law_place)
  F__law_word : Fun K "_law_word" "_law_word" s__law_word a.f__law_word a.fd__law_word
  b__law_word : Binds K a.fd__law_word ["bag", "kit"] []
  g__law_word : mg "_law_word" = some (.ref a.f__law_word)
  F__law_place_text : Fun K "_law_place_text" "_law_place_text" s__law_place_text a.f__law_place_text a.fd__law_place_text
  b__law_place_text : Binds K a.fd__law_place_text ["spot"] []
  g__law_place_text : mg "_law_place_text" = some (.ref a.f__law_place_text)
  F__law_order_text : Fun K "_law_order_text" "_law_order_text" s__law_order_text a.f__law_order_text a.fd__law_order_text
  b__law_order_text : Binds K a.fd__law_order_text ["one"] []
  g__law_order_text : mg "_law_order_text" = some (.ref a.f__law_order_text)
  F__law_key : Fun K "_law_key" "_law_key" s__law_key a.f__law_key a.fd__law_key
  b__law_key : Binds K a.fd__law_key ["one"] []
  g__law_key : mg "_law_key" = some (.ref a.f__law_key)
  F__law_to : Fun K "_law_to" "_law_to" s__law_to a.f__law_to a.fd__law_to
  b__law_to : Binds K a.fd__law_to ["one"] []
  g__law_to : mg "_law_to" = some (.ref a.f__law_to)
  F__law_order : Fun K "_law_order" "_law_order" s__law_order a.f__law_order a.fd__law_order
  b__law_order : Binds K a.fd__law_order ["bag", "kit", "word"] []
  g__law_order : mg "_law_order" = some (.ref a.f__law_order)
  F__law_orders : Fun K "_law_orders" "_law_orders" s__law_orders a.f__law_orders a.fd__law_orders
  b__law_orders : Binds K a.fd__law_orders ["bag", "kit"] []
  g__law_orders : mg "_law_orders" = some (.ref a.f__law_orders)
  F__law_few : Fun K "_law_few" "_law_few" s__law_few a.f__law_few a.fd__law_few
  b__law_few : Binds K a.fd__law_few ["bag"] []
  g__law_few : mg "_law_few" = some (.ref a.f__law_few)
  F__law_chain : Fun K "_law_chain" "_law_chain" s__law_chain a.f__law_chain a.fd__law_chain
  b__law_chain : Binds K a.fd__law_chain ["bag", "kit", "many", "pool"] []
  g__law_chain : mg "_law_chain" = some (.ref a.f__law_chain)
  F__law_names : Fun K "_law_names" "_law_names" s__law_names a.f__law_names a.fd__law_names
  b__law_names : Binds K a.fd__law_names ["bag", "many"] []
  g__law_names : mg "_law_names" = some (.ref a.f__law_names)
  F__law_put : Fun K "_law_put" "_law_put" s__law_put a.f__law_put a.fd__law_put
  b__law_put : Binds K a.fd__law_put ["onward", "numbers"] []
  g__law_put : mg "_law_put" = some (.ref a.f__law_put)
  F__law_laid : Fun K "_law_laid" "_law_laid" s__law_laid a.f__law_laid a.fd__law_laid
  b__law_laid : Binds K a.fd__law_laid ["bag", "kit", "most"] []
  g__law_laid : mg "_law_laid" = some (.ref a.f__law_laid)
  F__law_asked : Fun K "_law_asked" "_law_asked" s__law_asked a.f__law_asked a.fd__law_asked
  b__law_asked : Binds K a.fd__law_asked ["hold", "one", "other"] []
  g__law_asked : mg "_law_asked" = some (.ref a.f__law_asked)
  F__law_right : Fun K "_law_right" "_law_right" s__law_right a.f__law_right a.fd__law_right
  b__law_right : Binds K a.fd__law_right ["bag"] []
  g__law_right : mg "_law_right" = some (.ref a.f__law_right)
  F_law : Fun K "law" "law" s_law a.f_law a.fd_law
  b_law : Binds K a.fd_law ["script"] []
  g_law : mg "law" = some (.ref a.f_law)
  n_ValueError : mg "ValueError" = none
  n_int : mg "int" = none
  n_isinstance : mg "isinstance" = none
  n_len : mg "len" = none
  n_list : mg "list" = none
  n_max : mg "max" = none
  n_min : mg "min" = none
  n_range : mg "range" = none
  n_sorted : mg "sorted" = none
  n_str : mg "str" = none
  n_tuple : mg "tuple" = none
  n_zip : mg "zip" = none
  gx_LoftError : mg "LoftError" = some (.ref a.x_LoftError)
  kx_LoftError : PySem.W.keepIn K (.ref a.x_LoftError) = true
  bx_LoftError : PySem.W.subIn K (.ref a.x_LoftError) (.type "BaseException") = some true
  tx_LoftError : PySem.W.typeIn K (.ref a.x_LoftError) = some (.type "type")
  hx_LoftError : PySem.W.hasDictIn K a.x_LoftError = true
  gx_TooMany : mg "TooMany" = some (.ref a.x_TooMany)
  kx_TooMany : PySem.W.keepIn K (.ref a.x_TooMany) = true
  bx_TooMany : PySem.W.subIn K (.ref a.x_TooMany) (.type "BaseException") = some true
  tx_TooMany : PySem.W.typeIn K (.ref a.x_TooMany) = some (.type "type")
  hx_TooMany : PySem.W.hasDictIn K a.x_TooMany = true
  gx_NoRoom : mg "NoRoom" = some (.ref a.x_NoRoom)
  kx_NoRoom : PySem.W.keepIn K (.ref a.x_NoRoom) = true
  bx_NoRoom : PySem.W.subIn K (.ref a.x_NoRoom) (.type "BaseException") = some true
  tx_NoRoom : PySem.W.typeIn K (.ref a.x_NoRoom) = some (.type "type")
  hx_NoRoom : PySem.W.hasDictIn K a.x_NoRoom = true
  gx_NoRow : mg "NoRow" = some (.ref a.x_NoRow)
  kx_NoRow : PySem.W.keepIn K (.ref a.x_NoRow) = true
  bx_NoRow : PySem.W.subIn K (.ref a.x_NoRow) (.type "BaseException") = some true
  tx_NoRow : PySem.W.typeIn K (.ref a.x_NoRow) = some (.type "type")
  hx_NoRow : PySem.W.hasDictIn K a.x_NoRow = true
  xx_NoRow : PySem.W.excIn K a.x_NoRow [.type "ValueError", .type "Exception", .type "BaseException", .type "object"] "ValueError.__new__" = true
  gx_NoLoft : mg "NoLoft" = some (.ref a.x_NoLoft)
  kx_NoLoft : PySem.W.keepIn K (.ref a.x_NoLoft) = true
  bx_NoLoft : PySem.W.subIn K (.ref a.x_NoLoft) (.type "BaseException") = some true
  tx_NoLoft : PySem.W.typeIn K (.ref a.x_NoLoft) = some (.type "type")
  hx_NoLoft : PySem.W.hasDictIn K a.x_NoLoft = true
  gx_NoCells : mg "NoCells" = some (.ref a.x_NoCells)
  kx_NoCells : PySem.W.keepIn K (.ref a.x_NoCells) = true
  bx_NoCells : PySem.W.subIn K (.ref a.x_NoCells) (.type "BaseException") = some true
  tx_NoCells : PySem.W.typeIn K (.ref a.x_NoCells) = some (.type "type")
  hx_NoCells : PySem.W.hasDictIn K a.x_NoCells = true
  gx_NotStill : mg "NotStill" = some (.ref a.x_NotStill)
  kx_NotStill : PySem.W.keepIn K (.ref a.x_NotStill) = true
  bx_NotStill : PySem.W.subIn K (.ref a.x_NotStill) (.type "BaseException") = some true
  tx_NotStill : PySem.W.typeIn K (.ref a.x_NotStill) = some (.type "type")
  hx_NotStill : PySem.W.hasDictIn K a.x_NotStill = true
  gx_NoText : mg "NoText" = some (.ref a.x_NoText)
  kx_NoText : PySem.W.keepIn K (.ref a.x_NoText) = true
  bx_NoText : PySem.W.subIn K (.ref a.x_NoText) (.type "BaseException") = some true
  tx_NoText : PySem.W.typeIn K (.ref a.x_NoText) = some (.type "type")
  hx_NoText : PySem.W.hasDictIn K a.x_NoText = true
  gx_NoName : mg "NoName" = some (.ref a.x_NoName)
  kx_NoName : PySem.W.keepIn K (.ref a.x_NoName) = true
  bx_NoName : PySem.W.subIn K (.ref a.x_NoName) (.type "BaseException") = some true
  tx_NoName : PySem.W.typeIn K (.ref a.x_NoName) = some (.type "type")
  hx_NoName : PySem.W.hasDictIn K a.x_NoName = true
  xm_NoRow_LoftError : PySem.W.exmOne K (.ref a.x_NoRow) (.ref a.x_LoftError) = some true
  ec_NoRow : L2.ExcC K a.x_NoRow
  ki_NoRow_TooMany : PySem.W.kitOne K (.ref a.x_NoRow) (.ref a.x_TooMany) = some false
  ki_NoRow_NoRoom : PySem.W.kitOne K (.ref a.x_NoRow) (.ref a.x_NoRoom) = some false
  ki_NoRow_NoRow : PySem.W.kitOne K (.ref a.x_NoRow) (.ref a.x_NoRow) = some true
  ki_NoRow_NoLoft : PySem.W.kitOne K (.ref a.x_NoRow) (.ref a.x_NoLoft) = some false
  ki_NoRow_NoCells : PySem.W.kitOne K (.ref a.x_NoRow) (.ref a.x_NoCells) = some false
  ki_NoRow_NotStill : PySem.W.kitOne K (.ref a.x_NoRow) (.ref a.x_NotStill) = some false
  ki_NoRow_NoText : PySem.W.kitOne K (.ref a.x_NoRow) (.ref a.x_NoText) = some false
  ki_NoRow_NoName : PySem.W.kitOne K (.ref a.x_NoRow) (.ref a.x_NoName) = some false
  ki_NoRow_ValueError : PySem.W.kitOne K (.ref a.x_NoRow) (.type "ValueError") = some true
local macro_rules | `(tactic| walk_at "ll") => `(tactic| simp only [List.length_map, List.length_append, List.length_cons, List.length_nil, List.map_cons, List.map_nil, List.sum_cons, List.sum_nil, len_app, rng_length, ll_0, ll_1, ll_2, ll_3, ll_4, ll_5, ll_6, ll_7, ll_8, ll_9, ll_10, ll_11, ll_12, ll_13, ll_14, ll_15, ll_16, ll_17, ll_18, ll_19, ll_20, ll_21, ll_22, ll_23, ll_24, ll_25, ll_26, ll_27, ll_28, ll_29, ll_30, ll_31, ll_32, ll_33, ll_34, ll_35, ll_36, ll_37])
/-! ### numbers' sizes -/
theorem bits_le {x : Int} {n : Nat} (h : x.natAbs < 2 ^ n) (h0 : 0 < n) : Builtin.Int.intBits x ≤ n := by
  unfold Builtin.Int.intBits
  split
  · omega
  · have := PySem.Flt.log2_lt_of h0 h
    omega
theorem pow_ok {x : Int} {n : Nat} {k : Int} (h : x.natAbs < 2 ^ n) (h0 : 0 < n) (hk : 0 ≤ k) (hk2 : k ≤ 100) (hn : n ≤ 10000) : CPowX x k := by
  refine ⟨hk, ?_⟩
  have h1 := bits_le h h0
  have h2 : (Builtin.Int.intBits x : Int) * k ≤ 10000 * 100 := Int.mul_le_mul (by omega) hk2 hk (by omega)
  omega
theorem mul_ok {x y : Int} (h1 : -(2 ^ 64) < x) (h2 : x < 2 ^ 64) : IntMulOk x y := .of_left (intBits_le_64 h1 h2)
theorem div_ok {x y : Int} (h1 : 0 < y) (h2 : y < 2 ^ 64) : CDivW x y := ⟨h1, Nat.lt_of_lt_of_le (PySem.Flt.log2_lt_of (k := 64) (by decide) (by omega)) (by decide)⟩
/-! ### draws -/
def BagO (n : Nat) (o : GO) : Prop := ∃ a b c : Int, o = .lst [.int a, .int b, .int c] ∧ 0 ≤ a ∧ 0 ≤ b ∧ b < 10 ^ 51 ∧ 0 ≤ c ∧ c ≤ n
theorem BagO.mono {n m : Nat} {o : GO} (h : BagO n o) (l : n ≤ m) : BagO m o := by
  obtain ⟨a, b, c, e, h1, h2, h3, h4, h5⟩ := h
  exact ⟨a, b, c, e, h1, h2, h3, h4, by omega⟩
def sp__law_bag : DSp := fun ds G R => match ds with
  | [.int x, .int k] => Builtin.Int.intBits x ≤ 1048576 ∧ 0 ≤ k ∧ k ≤ 100 ∧ ∀ p o, G p = none → BagO 100 o → R (.ref p) (gup G p o)
  | _ => False
theorem ok__law_bag {P : Program} {w : World} {K : PySem.W.Frag} {mg : Str → Option Value} {base : Heap} {a : Ad} (T : Tx w K mg a) : FnD P w K mg base 1 a.f__law_bag a.fd__law_bag ["cell", "at"] sp__law_bag := by
  refine fun_okD T.F__law_bag sc__law_bag (fun ds G R h => ?_) (fun cdv A outer s H hr => ⟨_, (qss_one (qs_ret (qe_lst true (qa_cons (qe_callB (cd_max2 rfl) rfl T.n_max (by decide +kernel) (qa_cons qe_int (qa_cons (qe_op od_sub (qv 0) (qe_op od_pow qe_int qe_int)) qa_nil))) (qa_cons (qe_op od_mod (qe_op (od_add false) (qe_op od_mul (qv 0) (qe_op od_pow qe_int qe_int)) (qe_op od_mul qe_int (qe_op (od_add false) (qv 1) qe_int))) (qe_op (od_add false) (qe_op od_pow qe_int qe_int) qe_int)) (qa_cons (qv 1) qa_nil)))))), fun ds G R h => ?_⟩)
  · unfold sp__law_bag at h; split at h; rfl; exact h.elim
  · unfold sp__law_bag at h
    split at h
    · rename_i x k
      obtain ⟨hb, h0, h1, h⟩ := h
      walk_at "d"
      simp only [dPow, dMinus, dMod, dMul, dAdd, dI, dI0, dMax2]
      have p10 : ∀ k : Int, 0 ≤ k → k ≤ 100 → CPowX 10 k := fun k h0 h1 => pow_ok (n := 4) (by decide) (by decide) h0 h1 (by decide)
      have m1 : IntMulOk x (2750159 ^ Int.toNat 5) := IntMulOk.of_bits hb (Nat.le_trans (bits_le (n := 120) (by decide) (by decide)) (by decide))
      refine ⟨p10 _ (by decide) (by decide), pow_ok (n := 30) (by decide) (by decide) (by decide) (by decide) (by decide), m1, mul_ok (by decide) (by decide), p10 _ (by decide) (by decide), by decide, by decide, fun p np => ret_same (h p _ np ⟨_, _, _, rfl, ?_, ?_, ?_, by omega, by omega⟩)⟩
      · split <;> omega
      · exact Int.emod_nonneg _ (by decide)
      · refine Int.lt_of_lt_of_le (Int.emod_lt_of_pos _ (by decide)) (by decide)
    · exact h.elim
def sp__law_draw : DSp := fun ds G R => match ds with
  | [.ref s, .int m] => ∃ n o, G s = some o ∧ BagO n o ∧ n ≤ 1000000 ∧ 1 ≤ m ∧ m < 2 ^ 64 ∧ ∀ (r : Nat) o', (r : Int) < m → BagO (n + 1) o' → R (.int r) (gup G s o')
  | _ => False
theorem ok__law_draw {P : Program} {w : World} {K : PySem.W.Frag} {mg : Str → Option Value} {base : Heap} {a : Ad} (T : Tx w K mg a) : FnD P w K mg base 1 a.f__law_draw a.fd__law_draw ["bag", "many"] sp__law_draw := by
  refine fun_okD T.F__law_draw sc__law_draw (fun ds G R h => ?_) (fun cdv A outer s H hr => ⟨_, (qss_cons (qs_if (qt_cmp od_gt (qe_ix xd_ix (qv 0) qe_int (fun _ _ => rfl)) qe_int (nomark _))
      (qss_cons (qs_set (i := 2) sc__law_draw.nd rfl (.inl rfl) (qe_op od_mod (qe_ix xd_ix (qv 0) qe_int (fun _ _ => rfl)) (qv 1)))
      (qss_cons (qs_asg (qe_op od_fdiv (qe_ix xd_ix (qv 0) qe_int (fun _ _ => rfl)) (qv 1)) (qg_sub (qv 0) qe_int sd_set))
      (qss_one (qs_ret (qv 2)))))
      qss_nil)
      (qss_cons (qs_asg (qe_op (od_add false) (qe_ix xd_ix (qv 0) qe_int (fun _ _ => rfl)) qe_int) (qg_sub (qv 0) qe_int sd_set))
      (qss_cons (qs_asg (qe_op od_mod (qe_op (od_add false) (qe_op od_mul (qe_ix xd_ix (qv 0) qe_int (fun _ _ => rfl)) (qe_ix xd_ix (qv 0) qe_int (fun _ _ => rfl))) (qe_op od_mul (qe_ix xd_ix (qv 0) qe_int (fun _ _ => rfl)) (qe_op od_pow qe_int qe_int))) (qe_op (od_add false) (qe_op od_pow qe_int qe_int) qe_int)) (qg_sub (qv 0) qe_int sd_set))
      (qss_one (qs_ret (qe_op od_mod (qe_op od_fdiv (qe_ix xd_ix (qv 0) qe_int (fun _ _ => rfl)) qe_int) (qv 1))))))), fun ds G R h => ?_⟩)
  · unfold sp__law_draw at h; split at h; rfl; exact h.elim
  · unfold sp__law_draw at h
    split at h
    · rename_i s m
      obtain ⟨n, o, e, ⟨a, b, c, rfl, ha, hb, hb2, hc, hc2⟩, hn, hm, hm2, h⟩ := h
      walk_at "d"
      have at0 : atI [D.int a, D.int b, D.int c] 0 = some (.int a) := rfl
      have at2 : atI [D.int a, D.int b, D.int c] 2 = some (.int c) := rfl
      have ix0 : ixN [D.int a, D.int b, D.int c].length 0 = some 0 := rfl
      have ix2 : ixN [D.int a, D.int b, D.int c].length 2 = some 2 := rfl
      simp only [dIx, seqOf, lstOf, e, at0, at2, dGt, dOrd]
      by_cases h0 : 1 < a
      · rw [decide_eq_true h0]
        simp only [dMod, dFdiv, dI, e, at0, dSetI]
        refine ⟨by omega, div_ok (by omega) hm2, ?_⟩
        simp only [ix0, List.set_cons_zero]
        have hr1 := Int.emod_nonneg a (show m ≠ 0 by omega)
        have hr2 := Int.emod_lt_of_pos a (show 0 < m by omega)
        have er : a % m = ((a % m).toNat : Int) := by omega
        rw [er]
        exact ret_same (h _ _ (by omega) ⟨_, _, _, rfl, Int.ediv_nonneg ha (by omega), hb, hb2, hc, by omega⟩)
      · rw [decide_eq_false h0]
        have at1' : atI [D.int a, D.int b, D.int (c + 1)] 1 = some (.int b) := rfl
        have at2' : atI [D.int a, D.int b, D.int (c + 1)] 2 = some (.int (c + 1)) := rfl
        have ix1' : ixN [D.int a, D.int b, D.int (c + 1)].length 1 = some 1 := rfl
        simp only [e, at2, dSetI, ix2, List.set_cons_zero, List.set_cons_succ, gup_same, at1', at2', ix1', dMul, dPow, dMod, dFdiv, dAdd, dI]
        have p10 : ∀ k : Int, 0 ≤ k → k ≤ 100 → CPowX 10 k := fun k h0 h1 => pow_ok (n := 4) (by decide) (by decide) h0 h1 (by decide)
        have bb : Builtin.Int.intBits b ≤ 2 ^ 20 := Nat.le_trans (bits_le (n := 180) (by simp only [Int.reducePow, Nat.reducePow] at hb2 ⊢; omega) (by decide)) (by decide)
        refine ⟨IntMulOk.of_bits bb bb, pow_ok (n := 40) (by decide) (by decide) (by decide) (by decide) (by decide), mul_ok (by omega) (by omega), p10 _ (by decide) (by decide), by decide, ?_⟩
        have hx := Int.emod_nonneg (b * b + (c + 1) * 32452843 ^ Int.toNat 5) (show (10 : Int) ^ Int.toNat 50 + 151 ≠ 0 by decide)
        have hy := Int.emod_lt_of_pos (b * b + (c + 1) * 32452843 ^ Int.toNat 5) (show (0 : Int) < 10 ^ Int.toNat 50 + 151 by decide)
        generalize (b * b + (c + 1) * 32452843 ^ Int.toNat 5) % (10 ^ Int.toNat 50 + 151) = y at hx hy ⊢
        have hy2 : y < 10 ^ 51 := Int.lt_of_lt_of_le hy (by decide)
        have at1y : atI [D.int a, D.int y, D.int (c + 1)] 1 = some (.int y) := rfl
        simp only [gup_same, gup_gup, at1y]
        refine ⟨div_ok (by decide) (by decide), by omega, ?_⟩
        generalize y / 262147 = z
        have hr1 := Int.emod_nonneg z (show m ≠ 0 by omega)
        have hr2 := Int.emod_lt_of_pos z (show 0 < m by omega)
        have er : z % m = ((z % m).toNat : Int) := by omega
        rw [er]
        exact ret_same (h _ _ (by omega) ⟨_, _, _, rfl, ha, hx, hy2, by omega, by omega⟩)
    · exact h.elim
theorem go_draw {s : Addr} {m : Int} {G : Gp} {R : DK} {n : Nat} {o : GO} (e : G s = some o) (ho : BagO n o) (hn : n ≤ 1000000) (h1 : 1 ≤ m) (h2 : m < 2 ^ 64) (k : ∀ (r : Nat) o', (r : Int) < m → BagO (n + 1) o' → R (.int r) (gup G s o')) : sp__law_draw [.ref s, .int m] G R := ⟨n, o, e, ho, hn, h1, h2, k⟩
theorem pick {xs : List D} {r : Nat} {k : D → Prop} (hr : r < xs.length) (h : ∀ x ∈ xs, k x) : isN (atI xs (r : Int)) k := by
  rw [atI_nat (j := r) (v := xs[r]) (List.getElem?_eq_getElem hr)]
  exact h _ (List.getElem_mem hr)
theorem tupleN_l {zs : List Str} {G : Gp} {R : DK} : dTupleN [.lst (zs.map D.str)] G R = R (.nt zs) G := by
  show (match (lstOf G (.lst (zs.map D.str))).bind strsOf with | some zs => R (.nt zs) G | none => False) = _
  have : (lstOf G (.lst (zs.map D.str))).bind strsOf = some zs := strsOf_strs zs
  rw [this]
end K52


set_option Elab.async false
set_option linter.all false
set_option maxRecDepth 100000
set_option maxHeartbeats 4000000
set_option autoImplicit false
namespace K52
open PySem PySem.Spec PyProof.Rows L2 DL
local macro_rules | `(tactic| walk_at "d") => `(tactic| dsimp only [dSeq, dNext, dIfS, dRet, dRetN, dAsg, dName, dVar, dC, dOp, dUn, dChain, dB, dAnd, dOr, dNot, dAndV, dOrV, dNotV, dIf, dNil, dCons, dTup, dLst, newL, dCallB, dCall, dCallK, dDrop, dAug, dAugS, dSub, dM, dM0, dSlice, dNoPart, dPart, dLc, dYes, dFor, dIter, dRng1, dEnum, dZipM, srcD, dStar, dInK, dIxK, dLenSet, dRev,
  startD, wipeD, setAll, dNames, List.map_cons, List.map_nil, List.length_cons, List.length_nil, List.replicate, List.cons_append, List.nil_append, List.append_nil, List.getElem?_cons_zero, List.getElem?_cons_succ, List.set_cons_zero, List.set_cons_succ, List.map, Nat.zero_add, Nat.reduceAdd, Nat.reduceSub, Nat.sub_self, Nat.succ_sub_succ_eq_sub])
local macro_rules | `(tactic| walk_at "o") => `(tactic| simp only [dAdd_ii, dAdd_ss, dAdd_tt, dAdd_ll, dMinus_ii, dMul_ii, dMod_ii, dFdiv_ii, dPow_ii, dShl_ii, dNeg_i, dIadd_ii, dLt_ii, dLe_ii, dGt_ii, dGe_ii, dEq_ii, dNe_ii, dEq_ss, dNe_ss, dEq_bb, dNe_bb, dIs_n, dIsNot_n, dMax2_ii, dMin2_ii, dTuple_t, dTuple_l, dList_t, dList_l, dIx_t, dIx_l, dIx_s, dSl_t, dSl_l, dSl_s, newL_f, len_tup, len_lst])
local macro_rules | `(tactic| walk_at "w") => `(tactic| dsimp only [x_var, x_c, x_op, x_un, x_b, x_and, x_or, x_not, x_chain, x_andV, x_orV, x_notV, x_if, x_nil, x_cons, x_tup, x_lst0, x_lst1, x_callB, x_call, x_callK, x_next, x_seq, x_break, x_cont, x_drop, x_ret, x_ifS, x_asg, x_name, x_names, x_sub, x_aug, x_augS, x_for, x_lc0, x_lc1, x_yes, x_noPart, x_part, x_slice, x_iter, it_t, it_l, it_n, it_s, it_r, x_rng1, x_enum, x_rev, x_m, x_m0, x_mX, x_zip, x_star_t, x_star_l, x_lenSet, x_forgo0, x_lcgo0, x_while, x_par, x_sortK,
  br_t, br_f, isB_bl, isI_int, isN_some, slo_some, atL_lst, ix_t, ix_l, ix_n,
  dAdd_ii, dAdd_ss, dAdd_tt, dAdd_ll, dMinus_ii, dMul_ii, dMod_ii, dFdiv_ii, dPow_ii, dShl_ii, dNeg_i, dIadd_ii, dLt_ii, dLe_ii, dGt_ii, dGe_ii, ltE_ii, ltE_ss, srcD, isi_i, isi_s, isi_b, isi_n, isi_t, isi_nt, isi_l, isi2_i, isi2_s, isi2_b, isi2_n, isi2_t, isi2_nt, isi2_l, inon_n, inon_i, inon_s, inon_b, inon_t, inon_l, inon_r, dEq_ii, dNe_ii, dEq_ss, dNe_ss, dEq_bb, dNe_bb, dIs_n, dIsNot_n, dMax2_ii, dMin2_ii, dTuple_t, dTuple_l, dList_t, dList_l, dSl_t, dSl_l, dSl_s, newL_f, newL_t, app_r, int_b, int_i, strI_i, strX_i, strX_s,
  startD, wipeD, setAll, permL, List.filterMap, List.map_cons, List.map_nil, List.length_cons, List.length_nil, List.replicate, List.cons_append, List.nil_append, List.append_nil, List.getElem?_cons_zero, List.getElem?_cons_succ, List.set_cons_zero, List.set_cons_succ, List.map, Nat.zero_add, Nat.reduceAdd, Nat.reduceSub, Nat.sub_self, Nat.succ_sub_succ_eq_sub])
local macro_rules | `(tactic| walk_at "v") => `(tactic| simp only [ofString_inj, String.reduceEq, at_0, at_1, at_2, at_3, at_4, at_5, isN_some, isBB_bl, isB_bl, br_t, br_f, br_not, br_and, br_or, br_dec, ix_r, len_tup, len_lst, len_nt, ltE_key, gup_gup, gup_same, starD_one, cut1, cut2, kt1, kt2, kt3, kt4, kt5, kt6, isTy, String.reduceBEq, Bool.or_false, Bool.false_or, Bool.true_or, Bool.or_true, Bool.and_false, Bool.false_and, Bool.true_and, Bool.and_true, Bool.not_true, Bool.not_false, decide_true, decide_false, eq_self_iff_true, Bool.false_eq_true, Int.reduceAdd, Int.add_zero, if_true, if_false, true_and, and_true])
local macro_rules | `(tactic| walk_at "side") => `(tactic| first | with_reducible assumption | omega | exact mty_up | exact True.intro | (simp only [List.mem_cons, ofString_inj, String.reduceEq, true_or, or_true, List.length_map]; done) | with_reducible exact (rfl : (_ : Nat) = _) | exact (rfl : (_ : Option String) = _) | (refine small_line ?_; omega) | (walk_at "ll"; first | omega | (refine small_line ?_; omega) | fail) | (exact log_small (by omega)) | fail)
local macro_rules | `(tactic| walk_at "x") => `(tactic| fail)
local macro_rules | `(tactic| walk_at "go") => `(tactic| repeat' (first | dsimp only [x_var, x_c, x_op, x_un, x_b, x_and, x_or, x_not, x_chain, x_andV, x_orV, x_notV, x_if, x_nil, x_cons, x_tup, x_lst0, x_lst1, x_callB, x_call, x_callK, x_next, x_seq, x_break, x_cont, x_drop, x_ret, x_ifS, x_asg, x_name, x_names, x_sub, x_aug, x_augS, x_for, x_lc0, x_lc1, x_yes, x_noPart, x_part, x_slice, x_iter, it_t, it_l, it_n, it_s, it_r, x_rng1, x_enum, x_rev, x_m, x_m0, x_mX, x_zip, x_star_t, x_star_l, x_lenSet, x_forgo0, x_lcgo0, x_while, x_par, x_sortK, br_t, br_f, isB_bl, isI_int, isN_some, slo_some, atL_lst, ix_t, ix_l, ix_n, dAdd_ii, dAdd_ss, dAdd_tt, dAdd_ll, dMinus_ii, dMul_ii, dMod_ii, dFdiv_ii, dPow_ii, dShl_ii, dNeg_i, dIadd_ii, dLt_ii, dLe_ii, dGt_ii, dGe_ii, ltE_ii, ltE_ss, srcD, isi_i, isi_s, isi_b, isi_n, isi_t, isi_nt, isi_l, isi2_i, isi2_s, isi2_b, isi2_n, isi2_t, isi2_nt, isi2_l, inon_n, inon_i, inon_s, inon_b, inon_t, inon_l, inon_r, dEq_ii, dNe_ii, dEq_ss, dNe_ss, dEq_bb, dNe_bb, dIs_n, dIsNot_n, dMax2_ii, dMin2_ii, dTuple_t, dTuple_l, dList_t, dList_l, dSl_t, dSl_l, dSl_s, newL_f, newL_t, app_r, int_b, int_i, strI_i, strX_i, strX_s, startD, wipeD, setAll, permL, List.filterMap, List.map_cons, List.map_nil, List.length_cons, List.length_nil, List.replicate, List.cons_append, List.nil_append, List.append_nil, List.getElem?_cons_zero, List.getElem?_cons_succ, List.set_cons_zero, List.set_cons_succ, List.map, Nat.zero_add, Nat.reduceAdd, Nat.reduceSub, Nat.sub_self, Nat.succ_sub_succ_eq_sub] | simp only [ofString_inj, String.reduceEq, at_0, at_1, at_2, at_3, at_4, at_5, isN_some, isBB_bl, isB_bl, br_t, br_f, br_not, br_and, br_or, br_dec, ix_r, len_tup, len_lst, len_nt, ltE_key, gup_gup, gup_same, starD_one, cut1, cut2, kt1, kt2, kt3, kt4, kt5, kt6, isTy, String.reduceBEq, Bool.or_false, Bool.false_or, Bool.true_or, Bool.or_true, Bool.and_false, Bool.false_and, Bool.true_and, Bool.and_true, Bool.not_true, Bool.not_false, decide_true, decide_false, eq_self_iff_true, Bool.false_eq_true, Int.reduceAdd, Int.add_zero, if_true, if_false, true_and, and_true] | walk_at "x" | with_reducible refine kont_go ?_ | with_reducible refine rt_sub (by assumption) ?_ | with_reducible refine rt_lst (by assumption) ?_ | with_reducible refine rt_drop (by assumption) ?_ | with_reducible refine rt_keep (by assumption) (by assumption) ?_ | with_reducible refine rt_same ?_ | (refine fun (p : Addr) (_ : _ = none) => ?_) | refine join_gor gup_same rfl (by walk_at "side") ?_ | with_reducible refine lc_cons ?_ | with_reducible refine for_cons ?_ | refine join_go rfl (by walk_at "side") ?_ | refine And.intro (by first | with_reducible assumption | omega | exact mty_up | exact True.intro | (simp only [List.mem_cons, ofString_inj, String.reduceEq, true_or, or_true, List.length_map]; done) | with_reducible exact (rfl : (_ : Nat) = _) | exact (rfl : (_ : Option String) = _) | (refine small_line ?_; omega) | (walk_at "ll"; first | omega | (refine small_line ?_; omega) | fail) | (exact log_small (by omega)) | fail) ?_ | fail))
local macro_rules | `(tactic| walk_at "ll") => `(tactic| simp only [List.length_map, List.length_append, List.length_cons, List.length_nil, List.map_cons, List.map_nil, List.sum_cons, List.sum_nil, len_app, rng_length, ll_0, ll_1, ll_2, ll_3, ll_4, ll_5, ll_6, ll_7, ll_8, ll_9, ll_10, ll_11, ll_12, ll_13, ll_14, ll_15, ll_16, ll_17, ll_18, ll_19, ll_20, ll_21, ll_22, ll_23, ll_24, ll_25, ll_26, ll_27, ll_28, ll_29, ll_30, ll_31, ll_32, ll_33, ll_34, ll_35, ll_36, ll_37])
/-! ### places and orders -/
inductive Plc where
  | reg (x : Str) | hid (k : Nat)
deriving DecidableEq
inductive Ord where
  | alu (op : Str) (to a b : Plc) | move (to a : Plc) | put (to : Plc) (w : Nat) | load (to a : Plc) | store (a b : Plc)
deriving DecidableEq
def Plc.d : Plc → D
  | .reg x => .tup [.str "reg", .str x] | .hid k => .tup [.str "hid", .int k]
def Ord.d : Ord → D
  | .alu op to a b => .tup [.str "alu", .str op, to.d, a.d, b.d]
  | .move to a => .tup [.str "move", to.d, a.d]
  | .put to w => .tup [.str "put", to.d, .int w]
  | .load to a => .tup [.str "load", to.d, a.d]
  | .store a b => .tup [.str "store", a.d, b.d]
def Plc.txt : Plc → Str
  | .reg x => x | .hid k => "h" ++ toString (k : Int)
def Ord.txt : Ord → Str
  | .alu op to a b => Txt.join " " ["alu", op, to.txt, a.txt, b.txt]
  | .move to a => Txt.join " " ["move", to.txt, a.txt]
  | .put to w => Txt.join " " ["put", to.txt, toString (w : Int)]
  | .load to a => Txt.join " " ["load", to.txt, a.txt]
  | .store a b => Txt.join " " ["store", a.txt, b.txt]
def Ord.kix : Ord → Int
  | .alu _ _ _ _ => 0 | .move _ _ => 1 | .put _ _ => 2 | .load _ _ => 3 | .store _ _ => 4
def Ord.key (o : Ord) : Int × Str := (o.kix, o.txt)
def Plc.small : Plc → Prop
  | .reg x => x.length ≤ 100 | .hid k => k ≤ 1000
def Ord.small : Ord → Prop
  | .alu op to a b => op.length ≤ 100 ∧ to.small ∧ a.small ∧ b.small
  | .move to a => to.small ∧ a.small
  | .put to w => to.small ∧ w ≤ 1000
  | .load to a => to.small ∧ a.small
  | .store to a => to.small ∧ a.small
theorem isi_plc (p : Plc) {G : Gp} {R : DK} : dIsiX [p.d, .ty "tuple"] G R = R (.bl true) G := by
  cases p <;> exact propext ⟨fun h => h.2, fun h => ⟨by decide, h⟩⟩
theorem Plc.txt_len {p : Plc} (h : p.small) : p.txt.length ≤ 100 := by
  cases p with
  | reg x => exact h
  | hid k =>
    have := len_num (k := k) h
    show ((("h" : String) : Str) ++ _).length ≤ 100
    rw [len_app, len_lit]
    have : ("h" : String).length = 1 := rfl
    omega
theorem lc_typ {α : Type} {g : DG} {te : DE} {σ : Sd} {gd : Gp → Prop} {G : Gp} (d f : α → D) (hg : gd G) : ∀ (xs : List α) (acc : List D), (∀ x ∈ xs, ∀ Q : DK, Q (f x) G → g (d x) σ G fun σ2 G2 => te σ2 G2 Q) → ∀ Q : List D → Gp → Prop, Q (acc ++ xs.map f) G → dLcGo g dYes te gd σ (xs.map d) acc G Q
  | [], acc, _, Q, q => ⟨hg, by simpa using q⟩
  | x :: xs, acc, h, Q, q => ⟨hg, h x List.mem_cons_self _ (lc_typ d f hg xs (acc ++ [f x]) (fun y hy => h y (List.mem_cons_of_mem _ hy)) Q (by simpa using q))⟩
/-! ### names -/
def letters : Str := "abcdefghijklmnopqrstuvwxyz"
def low (c : Nat) : Bool := decide (97 ≤ c) && decide (c ≤ 122)
def nameOk (z : Str) : Bool := decide (1 ≤ z.length) && decide (z.length ≤ 8) && z.cps.toList.all low
/-! ### names drawn -/
theorem nameOk_iff {z : Str} : nameOk z = true ↔ (1 ≤ (cds z).length ∧ (cds z).length ≤ 8) ∧ ∀ c ∈ cds z, low c = true := by
  unfold nameOk
  rw [cds_len]
  simp only [Bool.and_eq_true, decide_eq_true_eq, List.all_eq_true]
/-- what a drawn list of names is -/
structure NamesOk (names : List Str) : Prop where
  ok : ∀ z ∈ names, nameOk z = true
  nd : names.Nodup
/-! ### machines drawn -/
/-- a machine, by its parts -/
structure MachP (b : Int) (names : List Str) (h al mo c : Int) : Prop where
  b1 : 1 ≤ b
  b2 : b ≤ 8
  n1 : 1 ≤ names.length
  n2 : names.length ≤ 6
  nm : NamesOk names
  h1 : 0 ≤ h
  h2 : h ≤ 12
  a1 : 1 ≤ al
  a2 : al ≤ 3
  m1 : 1 ≤ mo
  m2 : mo ≤ 3
  c1 : 0 ≤ c
  c2 : c ≤ 2 ^ b.toNat
structure Mach where
  b : Int
  names : List Str
  h : Int
  al : Int
  mo : Int
  c : Int
/-- a machine: its names are a tuple whose methods may be called -/
def Mach.d (M : Mach) : D := .tup [.int M.b, .nt M.names, .int M.h, .int M.al, .int M.mo, .int M.c]
def Mach.ok (M : Mach) : Prop := MachP M.b M.names M.h M.al M.mo M.c
theorem top_le {b : Int} (h1 : 1 ≤ b) (h2 : b ≤ 8) : (2 : Int) ≤ 2 ^ b.toNat ∧ (2 : Int) ^ b.toNat ≤ 256 := by
  have : b = 1 ∨ b = 2 ∨ b = 3 ∨ b = 4 ∨ b = 5 ∨ b = 6 ∨ b = 7 ∨ b = 8 := by omega
  rcases this with rfl | rfl | rfl | rfl | rfl | rfl | rfl | rfl <;> decide
/-! ### a machine drawn -/
def topsL : List Int := [2, 4, 8, 16, 32, 64, 128, 256]
theorem tops_d : topsL.map D.int = [.int 2, .int 4, .int 8, .int 16, .int 32, .int 64, .int 128, .int 256] := rfl
theorem tops_at {b : Int} (h1 : 1 ≤ b) (h2 : b ≤ 8) : atI (topsL.map D.int) (b - 1) = some (.int (2 ^ b.toNat)) := by
  have : b = 1 ∨ b = 2 ∨ b = 3 ∨ b = 4 ∨ b = 5 ∨ b = 6 ∨ b = 7 ∨ b = 8 := by omega
  rcases this with rfl | rfl | rfl | rfl | rfl | rfl | rfl | rfl <;> rfl
def sp__law_top : DSp := fun ds G R => ∃ M : Mach, ds = [M.d] ∧ M.ok ∧ R (.int (2 ^ M.b.toNat)) G
theorem ok__law_top {P : Program} {w : World} {K : PySem.W.Frag} {mg : Str → Option Value} {base : Heap} {a : Ad} (T : Tx w K mg a) : FnD P w K mg base 1 a.f__law_top a.fd__law_top ["kit"] sp__law_top := by
  refine fun_okD T.F__law_top sc__law_top (fun ds G R h => ?_) (fun cdv A outer s H hr => ⟨_, (qss_one (qs_ret (qe_ix xd_ix (qe_lst false (qa_cons qe_int (qa_cons qe_int (qa_cons qe_int (qa_cons qe_int (qa_cons qe_int (qa_cons qe_int (qa_cons qe_int (qa_cons qe_int qa_nil))))))))) (qe_op od_sub (qe_ix xd_ix (qv 0) qe_int (fun _ _ => rfl)) qe_int) (fun _ _ => rfl)))), fun ds G R h => ?_⟩)
  · obtain ⟨M, rfl, _⟩ := h; rfl
  · obtain ⟨M, rfl, hM, h⟩ := h
    have e := tops_at hM.b1 hM.b2
    rw [tops_d] at e
    unfold Mach.d
    walk_at "go"
    rw [e]
    walk_at "go"
    exact h
theorem go_top {M : Mach} {G : Gp} {R : DK} (hM : M.ok) (k : R (.int (2 ^ M.b.toNat)) G) : sp__law_top [M.d] G R := ⟨M, rfl, hM, k⟩
theorem popAt_go {p : Addr} {k : Nat} {ds : List D} {d : D} {G : Gp} {R : DK} (e : G p = some (.lst ds)) (h : ds[k]? = some d) (hk : k < 2 ^ 62) (q : R d (gup G p (.lst (ds.eraseIdx k)))) : dPopAt (.ref p) [.int (k : Nat)] G R := by
  have hl := (List.getElem?_eq_some_iff.mp h).1
  show atL (G p) fun ds => 0 ≤ ((k : Nat) : Int) ∧ ((k : Nat) : Int) < 2 ^ 62 ∧ isN ds[((k : Nat) : Int).toNat]? fun d => R d (gup G p (.lst (ds.eraseIdx ((k : Nat) : Int).toNat)))
  rw [e, atL_lst, Int.toNat_natCast, h, isN_some]
  exact ⟨by omega, by have := hk; omega, q⟩
theorem erase_map {α β : Type} (f : α → β) : ∀ (l : List α) (k : Nat), (l.map f).eraseIdx k = (l.eraseIdx k).map f
  | [], _ => rfl
  | a :: l, 0 => rfl
  | a :: l, k + 1 => by simp [erase_map f l k]
theorem erase_perm {α : Type} {l : List α} {k : Nat} (h : k < l.length) : ([l[k]] ++ l.eraseIdx k).Perm l := by
  rw [List.eraseIdx_eq_take_drop_succ]
  have e : l = l.take k ++ l[k] :: l.drop (k + 1) := by rw [← List.drop_eq_getElem_cons h, List.take_append_drop]
  refine List.Perm.trans ?_ (List.Perm.of_eq e.symm)
  exact (List.perm_middle (a := l[k]) (l₁ := l.take k) (l₂ := l.drop (k + 1))).symm
local macro_rules | `(tactic| walk_at "x") => `(tactic| first | refine go_draw (by first | exact gup_same | assumption | fail) (by assumption) (by omega) (by walk_at "side") (by walk_at "side") fun _ _ _ _ => ?_ | fail)
-- _law_kit: not reached
end K52


set_option Elab.async false
set_option linter.all false
set_option maxRecDepth 100000
set_option maxHeartbeats 4000000
set_option autoImplicit false
namespace K52
open PySem PySem.Spec PyProof.Rows L2 DL
local macro_rules | `(tactic| walk_at "d") => `(tactic| dsimp only [dSeq, dNext, dIfS, dRet, dRetN, dAsg, dName, dVar, dC, dOp, dUn, dChain, dB, dAnd, dOr, dNot, dAndV, dOrV, dNotV, dIf, dNil, dCons, dTup, dLst, newL, dCallB, dCall, dCallK, dDrop, dAug, dAugS, dSub, dM, dM0, dSlice, dNoPart, dPart, dLc, dYes, dFor, dIter, dRng1, dEnum, dZipM, srcD, dStar, dInK, dIxK, dLenSet, dRev,
  startD, wipeD, setAll, dNames, List.map_cons, List.map_nil, List.length_cons, List.length_nil, List.replicate, List.cons_append, List.nil_append, List.append_nil, List.getElem?_cons_zero, List.getElem?_cons_succ, List.set_cons_zero, List.set_cons_succ, List.map, Nat.zero_add, Nat.reduceAdd, Nat.reduceSub, Nat.sub_self, Nat.succ_sub_succ_eq_sub])
local macro_rules | `(tactic| walk_at "o") => `(tactic| simp only [dAdd_ii, dAdd_ss, dAdd_tt, dAdd_ll, dMinus_ii, dMul_ii, dMod_ii, dFdiv_ii, dPow_ii, dShl_ii, dNeg_i, dIadd_ii, dLt_ii, dLe_ii, dGt_ii, dGe_ii, dEq_ii, dNe_ii, dEq_ss, dNe_ss, dEq_bb, dNe_bb, dIs_n, dIsNot_n, dMax2_ii, dMin2_ii, dTuple_t, dTuple_l, dList_t, dList_l, dIx_t, dIx_l, dIx_s, dSl_t, dSl_l, dSl_s, newL_f, len_tup, len_lst])
local macro_rules | `(tactic| walk_at "w") => `(tactic| dsimp only [x_var, x_c, x_op, x_un, x_b, x_and, x_or, x_not, x_chain, x_andV, x_orV, x_notV, x_if, x_nil, x_cons, x_tup, x_lst0, x_lst1, x_callB, x_call, x_callK, x_next, x_seq, x_break, x_cont, x_drop, x_ret, x_ifS, x_asg, x_name, x_names, x_sub, x_aug, x_augS, x_for, x_lc0, x_lc1, x_yes, x_noPart, x_part, x_slice, x_iter, it_t, it_l, it_n, it_s, it_r, x_rng1, x_enum, x_rev, x_m, x_m0, x_mX, x_zip, x_star_t, x_star_l, x_lenSet, x_forgo0, x_lcgo0, x_while, x_par, x_sortK,
  br_t, br_f, isB_bl, isI_int, isN_some, slo_some, atL_lst, ix_t, ix_l, ix_n,
  dAdd_ii, dAdd_ss, dAdd_tt, dAdd_ll, dMinus_ii, dMul_ii, dMod_ii, dFdiv_ii, dPow_ii, dShl_ii, dNeg_i, dIadd_ii, dLt_ii, dLe_ii, dGt_ii, dGe_ii, ltE_ii, ltE_ss, srcD, isi_i, isi_s, isi_b, isi_n, isi_t, isi_nt, isi_l, isi2_i, isi2_s, isi2_b, isi2_n, isi2_t, isi2_nt, isi2_l, inon_n, inon_i, inon_s, inon_b, inon_t, inon_l, inon_r, dEq_ii, dNe_ii, dEq_ss, dNe_ss, dEq_bb, dNe_bb, dIs_n, dIsNot_n, dMax2_ii, dMin2_ii, dTuple_t, dTuple_l, dList_t, dList_l, dSl_t, dSl_l, dSl_s, newL_f, newL_t, app_r, int_b, int_i, strI_i, strX_i, strX_s,
  startD, wipeD, setAll, permL, List.filterMap, List.map_cons, List.map_nil, List.length_cons, List.length_nil, List.replicate, List.cons_append, List.nil_append, List.append_nil, List.getElem?_cons_zero, List.getElem?_cons_succ, List.set_cons_zero, List.set_cons_succ, List.map, Nat.zero_add, Nat.reduceAdd, Nat.reduceSub, Nat.sub_self, Nat.succ_sub_succ_eq_sub])
local macro_rules | `(tactic| walk_at "v") => `(tactic| simp only [ofString_inj, String.reduceEq, at_0, at_1, at_2, at_3, at_4, at_5, isN_some, isBB_bl, isB_bl, br_t, br_f, br_not, br_and, br_or, br_dec, ix_r, len_tup, len_lst, len_nt, ltE_key, gup_gup, gup_same, starD_one, cut1, cut2, kt1, kt2, kt3, kt4, kt5, kt6, isTy, String.reduceBEq, Bool.or_false, Bool.false_or, Bool.true_or, Bool.or_true, Bool.and_false, Bool.false_and, Bool.true_and, Bool.and_true, Bool.not_true, Bool.not_false, decide_true, decide_false, eq_self_iff_true, Bool.false_eq_true, Int.reduceAdd, Int.add_zero, if_true, if_false, true_and, and_true])
local macro_rules | `(tactic| walk_at "side") => `(tactic| first | with_reducible assumption | omega | exact mty_up | exact True.intro | (simp only [List.mem_cons, ofString_inj, String.reduceEq, true_or, or_true, List.length_map]; done) | with_reducible exact (rfl : (_ : Nat) = _) | exact (rfl : (_ : Option String) = _) | (refine small_line ?_; omega) | (walk_at "ll"; first | omega | (refine small_line ?_; omega) | fail) | (exact log_small (by omega)) | fail)
local macro_rules | `(tactic| walk_at "x") => `(tactic| fail)
local macro_rules | `(tactic| walk_at "go") => `(tactic| repeat' (first | dsimp only [x_var, x_c, x_op, x_un, x_b, x_and, x_or, x_not, x_chain, x_andV, x_orV, x_notV, x_if, x_nil, x_cons, x_tup, x_lst0, x_lst1, x_callB, x_call, x_callK, x_next, x_seq, x_break, x_cont, x_drop, x_ret, x_ifS, x_asg, x_name, x_names, x_sub, x_aug, x_augS, x_for, x_lc0, x_lc1, x_yes, x_noPart, x_part, x_slice, x_iter, it_t, it_l, it_n, it_s, it_r, x_rng1, x_enum, x_rev, x_m, x_m0, x_mX, x_zip, x_star_t, x_star_l, x_lenSet, x_forgo0, x_lcgo0, x_while, x_par, x_sortK, br_t, br_f, isB_bl, isI_int, isN_some, slo_some, atL_lst, ix_t, ix_l, ix_n, dAdd_ii, dAdd_ss, dAdd_tt, dAdd_ll, dMinus_ii, dMul_ii, dMod_ii, dFdiv_ii, dPow_ii, dShl_ii, dNeg_i, dIadd_ii, dLt_ii, dLe_ii, dGt_ii, dGe_ii, ltE_ii, ltE_ss, srcD, isi_i, isi_s, isi_b, isi_n, isi_t, isi_nt, isi_l, isi2_i, isi2_s, isi2_b, isi2_n, isi2_t, isi2_nt, isi2_l, inon_n, inon_i, inon_s, inon_b, inon_t, inon_l, inon_r, dEq_ii, dNe_ii, dEq_ss, dNe_ss, dEq_bb, dNe_bb, dIs_n, dIsNot_n, dMax2_ii, dMin2_ii, dTuple_t, dTuple_l, dList_t, dList_l, dSl_t, dSl_l, dSl_s, newL_f, newL_t, app_r, int_b, int_i, strI_i, strX_i, strX_s, startD, wipeD, setAll, permL, List.filterMap, List.map_cons, List.map_nil, List.length_cons, List.length_nil, List.replicate, List.cons_append, List.nil_append, List.append_nil, List.getElem?_cons_zero, List.getElem?_cons_succ, List.set_cons_zero, List.set_cons_succ, List.map, Nat.zero_add, Nat.reduceAdd, Nat.reduceSub, Nat.sub_self, Nat.succ_sub_succ_eq_sub] | simp only [ofString_inj, String.reduceEq, at_0, at_1, at_2, at_3, at_4, at_5, isN_some, isBB_bl, isB_bl, br_t, br_f, br_not, br_and, br_or, br_dec, ix_r, len_tup, len_lst, len_nt, ltE_key, gup_gup, gup_same, starD_one, cut1, cut2, kt1, kt2, kt3, kt4, kt5, kt6, isTy, String.reduceBEq, Bool.or_false, Bool.false_or, Bool.true_or, Bool.or_true, Bool.and_false, Bool.false_and, Bool.true_and, Bool.and_true, Bool.not_true, Bool.not_false, decide_true, decide_false, eq_self_iff_true, Bool.false_eq_true, Int.reduceAdd, Int.add_zero, if_true, if_false, true_and, and_true] | walk_at "x" | with_reducible refine kont_go ?_ | with_reducible refine rt_sub (by assumption) ?_ | with_reducible refine rt_lst (by assumption) ?_ | with_reducible refine rt_drop (by assumption) ?_ | with_reducible refine rt_keep (by assumption) (by assumption) ?_ | with_reducible refine rt_same ?_ | (refine fun (p : Addr) (_ : _ = none) => ?_) | refine join_gor gup_same rfl (by walk_at "side") ?_ | with_reducible refine lc_cons ?_ | with_reducible refine for_cons ?_ | refine join_go rfl (by walk_at "side") ?_ | refine And.intro (by first | with_reducible assumption | omega | exact mty_up | exact True.intro | (simp only [List.mem_cons, ofString_inj, String.reduceEq, true_or, or_true, List.length_map]; done) | with_reducible exact (rfl : (_ : Nat) = _) | exact (rfl : (_ : Option String) = _) | (refine small_line ?_; omega) | (walk_at "ll"; first | omega | (refine small_line ?_; omega) | fail) | (exact log_small (by omega)) | fail) ?_ | fail))
local macro_rules | `(tactic| walk_at "ll") => `(tactic| simp only [List.length_map, List.length_append, List.length_cons, List.length_nil, List.map_cons, List.map_nil, List.sum_cons, List.sum_nil, len_app, rng_length, ll_0, ll_1, ll_2, ll_3, ll_4, ll_5, ll_6, ll_7, ll_8, ll_9, ll_10, ll_11, ll_12, ll_13, ll_14, ll_15, ll_16, ll_17, ll_18, ll_19, ll_20, ll_21, ll_22, ll_23, ll_24, ll_25, ll_26, ll_27, ll_28, ll_29, ll_30, ll_31, ll_32, ll_33, ll_34, ll_35, ll_36, ll_37])
def Plc.ok (M : Mach) : Plc → Prop
  | .reg x => x ∈ M.names | .hid k => (k : Int) < M.h
def opL : List Str := ["add", "sub", "and", "or", "xor", "less", "same"]
def Ord.ok (M : Mach) : Ord → Prop
  | .alu op to a b => op ∈ opL ∧ to.ok M ∧ a.ok M ∧ b.ok M
  | .move to a => to.ok M ∧ a.ok M
  | .put to w => to.ok M ∧ (w : Int) < 2 ^ M.b.toNat
  | .load to a => to.ok M ∧ a.ok M
  | .store to a => to.ok M ∧ a.ok M
theorem name_len {z : Str} (h : nameOk z = true) : z.length ≤ 100 := by
  have := (nameOk_iff.mp h).1.2
  rw [cds_len] at this
  omega
theorem Plc.ok.small {M : Mach} (hM : M.ok) {p : Plc} (h : p.ok M) : p.small := by
  cases p with
  | reg x => exact name_len (hM.nm.1 x h)
  | hid k => have := hM.h2; have : (k : Int) < M.h := h; show k ≤ 1000; omega
theorem op_len : ∀ op ∈ opL, op.length ≤ 100 := by decide +kernel
theorem Ord.ok.small {M : Mach} (hM : M.ok) {o : Ord} (h : o.ok M) : o.small := by
  have ht := top_le hM.b1 hM.b2
  cases o with
  | alu op to a b => exact ⟨op_len _ h.1, h.2.1.small hM, h.2.2.1.small hM, h.2.2.2.small hM⟩
  | put to w => have := h.2; exact ⟨h.1.small hM, by omega⟩
  | move to a => exact ⟨h.1.small hM, h.2.small hM⟩
  | load to a => exact ⟨h.1.small hM, h.2.small hM⟩
  | store to a => exact ⟨h.1.small hM, h.2.small hM⟩
local macro_rules | `(tactic| walk_at "x") => `(tactic| first | refine go_draw (by first | exact gup_same | assumption | fail) (by assumption) (by omega) (by walk_at "side") (by walk_at "side") fun _ _ _ _ => ?_ | refine go_top (by assumption) ?_ | fail)
def sp__law_place : DSp := fun ds G R => ∃ s M n o, ds = [.ref s, Mach.d M] ∧ M.ok ∧ G s = some o ∧ BagO n o ∧ n ≤ 900000 ∧ ∀ (p : Plc) o', p.ok M → BagO (n + 1) o' → R p.d (gup G s o')
theorem ok__law_place {P : Program} {w : World} {K : PySem.W.Frag} {mg : Str → Option Value} {base : Heap} {a : Ad} (T : Tx w K mg a) : FnD P w K mg base 2 a.f__law_place a.fd__law_place ["bag", "kit"] sp__law_place := by
  refine fun_okD T.F__law_place sc__law_place (fun ds G R h => ?_) (fun cdv A outer s H hr => ⟨_, (qss_cons (qs_set (i := 2) sc__law_place.nd rfl (.inl rfl) (qe_call (ok__law_draw T) (hr.mono (by omega)) rfl T.g__law_draw T.F__law_draw.kp T.b__law_draw (qa_cons (qv 0) (qa_cons (qe_op (od_add false) (qe_callB cd_len rfl T.n_len (by decide +kernel) (qa_cons (qe_ix xd_ix (qv 1) qe_int (fun _ _ => rfl)) qa_nil)) (qe_ix xd_ix (qv 1) qe_int (fun _ _ => rfl))) qa_nil))))
      (qss_cons (qs_if (qt_cmp (od_ltE (room100 hr)) (qv 2) (qe_callB cd_len rfl T.n_len (by decide +kernel) (qa_cons (qe_ix xd_ix (qv 1) qe_int (fun _ _ => rfl)) qa_nil)) (nomark _))
      (qss_one (qs_ret (qe_tup (qa_cons qe_str (qa_cons (qe_ix xd_ix (qe_ix xd_ix (qv 1) qe_int (fun _ _ => rfl)) (qv 2) (fun _ _ => rfl)) qa_nil)))))
      qss_nil)
      (qss_one (qs_ret (qe_tup (qa_cons qe_str (qa_cons (qe_op od_sub (qv 2) (qe_callB cd_len rfl T.n_len (by decide +kernel) (qa_cons (qe_ix xd_ix (qv 1) qe_int (fun _ _ => rfl)) qa_nil))) qa_nil))))))), fun ds G R h => ?_⟩)
  · obtain ⟨s, M, n, o, rfl, _⟩ := h; rfl
  · obtain ⟨s, M, n, o, rfl, hM, e, ho, hn, h⟩ := h
    have hn1 := hM.n1; have hn2 := hM.n2; have hh1 := hM.h1; have hh2 := hM.h2
    unfold Mach.d
    walk_at "go"
    rename_i r o1 hr ho1
    split
    · rename_i hlt
      walk_at "go"
      have hl : r < M.names.length := by omega
      rw [atI_nat (j := r) (v := .str M.names[r]) (by rw [List.getElem?_map, List.getElem?_eq_getElem hl]; rfl)]
      walk_at "go"
      exact h (.reg M.names[r]) o1 (List.getElem_mem hl) ho1
    · rename_i hlt
      walk_at "go"
      have := h (.hid (r - M.names.length)) o1 (by show ((r - M.names.length : Nat) : Int) < M.h; omega) ho1
      simp only [Plc.d] at this
      rw [show (((r - M.names.length : Nat)) : Int) = (r : Int) - (M.names.length : Int) by omega] at this
      exact this
theorem go_place {s : Addr} {M : Mach} {G : Gp} {R : DK} {o : GO} {n : Nat} (hM : M.ok) (e : G s = some o) (h : BagO n o) (hn : n ≤ 900000) (k : ∀ (p : Plc) o', p.ok M → BagO (n + 1) o' → R p.d (gup G s o')) : sp__law_place [.ref s, M.d] G R := ⟨s, M, n, o, rfl, hM, e, h, hn, k⟩
def sp__law_word : DSp := fun ds G R => ∃ s M n o, ds = [.ref s, Mach.d M] ∧ M.ok ∧ G s = some o ∧ BagO n o ∧ n ≤ 900000 ∧ ∀ (v : Nat) o', (v : Int) < 2 ^ M.b.toNat → BagO (n + 2) o' → R (.int v) (gup G s o')
theorem ok__law_word {P : Program} {w : World} {K : PySem.W.Frag} {mg : Str → Option Value} {base : Heap} {a : Ad} (T : Tx w K mg a) : FnD P w K mg base 2 a.f__law_word a.fd__law_word ["bag", "kit"] sp__law_word := by
  refine fun_okD T.F__law_word sc__law_word (fun ds G R h => ?_) (fun cdv A outer s H hr => ⟨_, (qss_cons (qs_set (i := 2) sc__law_word.nd rfl (.inl rfl) (qe_call (ok__law_top T) (hr.mono (by omega)) rfl T.g__law_top T.F__law_top.kp T.b__law_top (qa_cons (qv 1) qa_nil)))
      (qss_one (qs_ret (qe_ix xd_ix (qe_lst false (qa_cons qe_int (qa_cons qe_int (qa_cons (qe_op od_sub (qv 2) qe_int) (qa_cons (qe_callB (cd_min2 rfl) rfl T.n_min (by decide +kernel) (qa_cons (qe_ix xd_ix (qv 1) qe_int (fun _ _ => rfl)) (qa_cons (qe_op od_sub (qv 2) qe_int) qa_nil))) (qa_cons (qe_call (ok__law_draw T) (hr.mono (by omega)) rfl T.g__law_draw T.F__law_draw.kp T.b__law_draw (qa_cons (qv 0) (qa_cons (qv 2) qa_nil))) qa_nil)))))) (qe_call (ok__law_draw T) (hr.mono (by omega)) rfl T.g__law_draw T.F__law_draw.kp T.b__law_draw (qa_cons (qv 0) (qa_cons qe_int qa_nil))) (fun _ _ => rfl))))), fun ds G R h => ?_⟩)
  · obtain ⟨s, M, n, o, rfl, _⟩ := h; rfl
  · obtain ⟨s, M, n, o, rfl, hM, e, ho, hn, h⟩ := h
    have htop := top_le hM.b1 hM.b2
    have hc1 := hM.c1; have hc2 := hM.c2
    walk_at "go"
    unfold Mach.d
    walk_at "go"
    rename_i r1 o1 hr1 ho1 r2 o2 hr2 ho2
    generalize (2 : Int) ^ M.b.toNat = top at htop hc2 hr1 h ⊢
    refine pick (by walk_at "side") fun x hx => ?_
    obtain ⟨v, rfl, hv⟩ : ∃ v : Nat, x = .int v ∧ (v : Int) < top := by
      simp only [List.mem_cons, List.not_mem_nil, or_false] at hx
      rcases hx with rfl | rfl | rfl | rfl | rfl
      · exact ⟨0, rfl, by omega⟩
      · exact ⟨1, rfl, by omega⟩
      · exact ⟨(top - 1 : Int).toNat, by congr 1; omega, by omega⟩
      · split
        · exact ⟨(top - 1 : Int).toNat, by congr 1; omega, by omega⟩
        · exact ⟨M.c.toNat, by congr 1; omega, by omega⟩
      · exact ⟨_, rfl, by omega⟩
    walk_at "go"
    exact h v _ hv ho2
theorem go_word {s : Addr} {M : Mach} {G : Gp} {R : DK} {o : GO} {n : Nat} (hM : M.ok) (e : G s = some o) (h : BagO n o) (hn : n ≤ 900000) (k : ∀ (v : Nat) o', (v : Int) < 2 ^ M.b.toNat → BagO (n + 2) o' → R (.int v) (gup G s o')) : sp__law_word [.ref s, M.d] G R := ⟨s, M, n, o, rfl, hM, e, h, hn, k⟩
inductive Prt where
  | plc (p : Plc) | num (w : Nat) | wrd (z : Str)
def Prt.d : Prt → D | .plc p => p.d | .num w => .int w | .wrd z => .str z
def Prt.txt : Prt → Str | .plc p => p.txt | .num w => toString (w : Int) | .wrd z => z
def Prt.small : Prt → Prop | .plc p => p.small | .num w => w ≤ 1000 | .wrd z => z.length ≤ 100
def Ord.kind : Ord → Str
  | .alu _ _ _ _ => "alu" | .move _ _ => "move" | .put _ _ => "put" | .load _ _ => "load" | .store _ _ => "store"
def Ord.parts : Ord → List Prt
  | .alu op to a b => [.wrd op, .plc to, .plc a, .plc b] | .move to a => [.plc to, .plc a] | .put to w => [.plc to, .num w] | .load to a => [.plc to, .plc a] | .store to a => [.plc to, .plc a]
theorem Ord.d_eq (o : Ord) : o.d = .tup (.str o.kind :: o.parts.map Prt.d) := by cases o <;> rfl
theorem Ord.txt_eq (o : Ord) : o.txt = Txt.join " " (o.kind :: o.parts.map Prt.txt) := by cases o <;> rfl
theorem Ord.parts_small {o : Ord} (h : o.small) : ∀ q ∈ o.parts, q.small := by
  intro q hq
  cases o <;> simp only [Ord.parts, List.mem_cons, List.not_mem_nil, or_false] at hq
  · rcases hq with rfl | rfl | rfl | rfl
    · exact h.1
    · exact h.2.1
    · exact h.2.2.1
    · exact h.2.2.2
  all_goals
    rcases hq with rfl | rfl
    · exact h.1
    · exact h.2
theorem Ord.parts_len (o : Ord) : o.parts.length ≤ 4 := by cases o <;> simp [Ord.parts]
theorem Prt.txt_len {q : Prt} (h : q.small) : q.txt.length ≤ 100 := by
  cases q with
  | plc p => exact Plc.txt_len h
  | num w => have := len_num (k := w) h; show (Str.ofString (toString (w : Int))).length ≤ 100; omega
  | wrd z => exact h
theorem kind_len (o : Ord) : o.kind.length ≤ 100 := by cases o <;> (simp only [Ord.kind]; first | (rw [len_lit]; decide) | decide +kernel)
theorem sum_le {α : Type} (f : α → Nat) (n : Nat) : ∀ l : List α, (∀ x ∈ l, f x ≤ n) → (l.map f).sum ≤ n * l.length
  | [], _ => by simp
  | x :: l, h => by
    have h1 := h x (List.mem_cons_self ..)
    have h2 := sum_le f n l fun y hy => h y (List.mem_cons_of_mem _ hy)
    simp only [List.map_cons, List.sum_cons, List.length_cons, Nat.mul_add, Nat.mul_one]
    omega
theorem words_fit {o : Ord} (h : o.small) : ((o.kind :: o.parts.map Prt.txt).map fun z : Str => z.length).sum + (o.kind :: o.parts.map Prt.txt).length * (Str.ofString " ").length ≤ 16777216 := by
  have h1 := sum_le (fun z : Str => z.length) 100 (o.kind :: o.parts.map Prt.txt) (fun z hz => by
    rcases List.mem_cons.mp hz with rfl | hz
    · exact kind_len o
    · obtain ⟨q, hq, rfl⟩ := List.mem_map.mp hz
      exact Prt.txt_len (Ord.parts_small h q hq))
  have h2 := o.parts_len
  have h3 : (Str.ofString " ").length = 1 := by rw [len_lit]; rfl
  simp only [List.length_cons, List.length_map, h3] at h1 ⊢
  omega
def kinds5 : List Str := ["alu", "move", "put", "load", "store"]
def sp__law_order : DSp := fun ds G R => ∃ s M n o w, ds = [.ref s, Mach.d M, .str w] ∧ M.ok ∧ w ∈ kinds5 ∧ G s = some o ∧ BagO n o ∧ n ≤ 890000 ∧ ∀ (x : Ord) o', x.ok M → x.kind = w → BagO (n + 8) o' → R x.d (gup G s o')
local macro_rules | `(tactic| walk_at "x") => `(tactic| first | refine go_draw (by first | exact gup_same | assumption | fail) (by assumption) (by omega) (by walk_at "side") (by walk_at "side") fun _ _ _ _ => ?_ | refine go_place (by assumption) (by first | exact gup_same | assumption | fail) (by assumption) (by omega) fun _ _ _ _ => ?_ | refine go_word (by assumption) (by first | exact gup_same | assumption | fail) (by assumption) (by omega) fun _ _ _ _ => ?_ | fail)
theorem ok__law_order {P : Program} {w : World} {K : PySem.W.Frag} {mg : Str → Option Value} {base : Heap} {a : Ad} (T : Tx w K mg a) : FnD P w K mg base 3 a.f__law_order a.fd__law_order ["bag", "kit", "word"] sp__law_order := by
  refine fun_okD T.F__law_order sc__law_order (fun ds G R h => ?_) (fun cdv A outer s H hr => ⟨_, (qss_cons (qs_par3 (i := 3) (j := 4) (l := 5) rfl sc__law_order.nd rfl rfl rfl (by decide) (by decide) (by decide) rfl rfl rfl (qa_cons (qe_call (ok__law_place T) (hr.mono (by omega)) rfl T.g__law_place T.F__law_place.kp T.b__law_place (qa_cons (qv 0) (qa_cons (qv 1) qa_nil))) (qa_cons (qe_call (ok__law_place T) (hr.mono (by omega)) rfl T.g__law_place T.F__law_place.kp T.b__law_place (qa_cons (qv 0) (qa_cons (qv 1) qa_nil))) (qa_cons (qe_call (ok__law_place T) (hr.mono (by omega)) rfl T.g__law_place T.F__law_place.kp T.b__law_place (qa_cons (qv 0) (qa_cons (qv 1) qa_nil))) qa_nil))))
      (qss_cons (qs_if (qt_cmp (od_eq hr.units) (qv 2) qe_str (nomark _))
      (qss_cons (qs_set (i := 6) sc__law_order.nd rfl (.inl rfl) (qe_ix xd_ix (qe_lst false (qa_cons qe_str (qa_cons qe_str (qa_cons qe_str (qa_cons qe_str (qa_cons qe_str (qa_cons qe_str (qa_cons qe_str qa_nil)))))))) (qe_call (ok__law_draw T) (hr.mono (by omega)) rfl T.g__law_draw T.F__law_draw.kp T.b__law_draw (qa_cons (qv 0) (qa_cons qe_int qa_nil))) (fun _ _ => rfl)))
      (qss_one (qs_ret (qe_tup (qa_cons qe_str (qa_cons (qv 6) (qa_cons (qv 5) (qa_cons (qv 3) (qa_cons (qv 4) qa_nil)))))))))
      qss_nil)
      (qss_cons (qs_if (qt_cmp (od_eq hr.units) (qv 2) qe_str (nomark _))
      (qss_one (qs_ret (qe_tup (qa_cons qe_str (qa_cons (qv 5) (qa_cons (qe_call (ok__law_word T) (hr.mono (by omega)) rfl T.g__law_word T.F__law_word.kp T.b__law_word (qa_cons (qv 0) (qa_cons (qv 1) qa_nil))) qa_nil))))))
      qss_nil)
      (qss_cons (qs_if (qt_cmp (od_eq hr.units) (qv 2) qe_str (nomark _))
      (qss_one (qs_ret (qe_tup (qa_cons qe_str (qa_cons (qv 3) (qa_cons (qv 4) qa_nil))))))
      qss_nil)
      (qss_one (qs_ret (qe_tup (qa_cons (qv 2) (qa_cons (qv 5) (qa_cons (qv 3) qa_nil)))))))))), fun ds G R h => ?_⟩)
  · obtain ⟨s, M, n, o, w, rfl, _⟩ := h; rfl
  · obtain ⟨s, M, n, o, w, rfl, hM, hw, e, ho, hn, h⟩ := h
    simp only [kinds5, List.mem_cons, List.not_mem_nil, or_false] at hw
    rcases hw with rfl | rfl | rfl | rfl | rfl
    · walk_at "go"
      rename_i p1 o1 hp1 ho1 p2 o2 hp2 ho2 p3 o3 hp3 ho3 r4 o4 hr4 ho4
      refine pick (by walk_at "side") fun x hx => ?_
      obtain ⟨op, rfl, hop⟩ : ∃ op, x = .str op ∧ op ∈ opL := by
        simp only [List.mem_cons, List.not_mem_nil, or_false] at hx
        rcases hx with rfl | rfl | rfl | rfl | rfl | rfl | rfl <;> exact ⟨_, rfl, by simp [opL]⟩
      walk_at "go"
      exact h (.alu op p3 p1 p2) o4 ⟨hop, hp3, hp1, hp2⟩ rfl (ho4.mono (by omega))
    · walk_at "go"
      rename_i p1 o1 hp1 ho1 p2 o2 hp2 ho2 p3 o3 hp3 ho3
      exact h (.move p3 p1) o3 ⟨hp3, hp1⟩ rfl (ho3.mono (by omega))
    · walk_at "go"
      rename_i p1 o1 hp1 ho1 p2 o2 hp2 ho2 p3 o3 hp3 ho3 v o4 hv ho4
      exact h (.put p3 v) o4 ⟨hp3, hv⟩ rfl (ho4.mono (by omega))
    · walk_at "go"
      rename_i p1 o1 hp1 ho1 p2 o2 hp2 ho2 p3 o3 hp3 ho3
      exact h (.load p3 p1) o3 ⟨hp3, hp1⟩ rfl (ho3.mono (by omega))
    · walk_at "go"
      rename_i p1 o1 hp1 ho1 p2 o2 hp2 ho2 p3 o3 hp3 ho3
      exact h (.store p1 p2) o3 ⟨hp1, hp2⟩ rfl (ho3.mono (by omega))
theorem go_order {s : Addr} {M : Mach} {G : Gp} {R : DK} {o : GO} {n : Nat} {w : Str} (hM : M.ok) (hw : w ∈ kinds5) (e : G s = some o) (h : BagO n o) (hn : n ≤ 890000) (k : ∀ (x : Ord) o', x.ok M → x.kind = w → BagO (n + 8) o' → R x.d (gup G s o')) : sp__law_order [.ref s, M.d, .str w] G R := ⟨s, M, n, o, w, rfl, hM, hw, e, h, hn, k⟩
def sp__law_place_text : DSp := fun ds G R => ∃ p : Plc, ds = [p.d] ∧ p.small ∧ R (.str p.txt) G
theorem ok__law_place_text {P : Program} {w : World} {K : PySem.W.Frag} {mg : Str → Option Value} {base : Heap} {a : Ad} (T : Tx w K mg a) : FnD P w K mg base 1 a.f__law_place_text a.fd__law_place_text ["spot"] sp__law_place_text := by
  refine fun_okD T.F__law_place_text sc__law_place_text (fun ds G R h => ?_) (fun cdv A outer s H hr => ⟨_, (qss_one (qs_ret (qe_ifExp (qt_cmp (od_eq hr.units) (qe_ix xd_ix (qv 0) qe_int (fun _ _ => rfl)) qe_str (nomark _)) (qe_ix xd_ix (qv 0) qe_int (fun _ _ => rfl)) (qe_op (od_add false) qe_str (qe_callTy cd_strX rfl T.n_str (by decide +kernel) (qa_cons (qe_ix xd_ix (qv 0) qe_int (fun _ _ => rfl)) qa_nil)))))), fun ds G R h => ?_⟩)
  · obtain ⟨p, rfl, _⟩ := h; rfl
  · obtain ⟨p, rfl, hp, h⟩ := h
    cases p with
    | reg z => dsimp only [Plc.d]; walk_at "go"; exact h
    | hid k =>
      have := len_num (k := k) hp
      have hk : k ≤ 1000 := hp
      dsimp only [Plc.d]; walk_at "go"; exact h
theorem go_place_text {p : Plc} {G : Gp} {R : DK} (h : p.small) (k : R (.str p.txt) G) : sp__law_place_text [p.d] G R := ⟨p, rfl, h, k⟩
def sp__law_order_text : DSp := fun ds G R => ∃ o : Ord, ds = [o.d] ∧ o.small ∧ R (.str o.txt) G
theorem ok__law_order_text {P : Program} {w : World} {K : PySem.W.Frag} {mg : Str → Option Value} {base : Heap} {a : Ad} (T : Tx w K mg a) : FnD P w K mg base 2 a.f__law_order_text a.fd__law_order_text ["one"] sp__law_order_text := by
  refine fun_okD T.F__law_order_text sc__law_order_text (fun ds G R h => ?_) (fun cdv A outer s H hr => ⟨_, (qss_cons (qs_setLc false (i := 1) rfl sc__law_order_text.nd rfl rfl (sw_true rfl rfl rfl (by decide +kernel)) (qi_seq (qv 0)) (blkOk_by (own := [("part", 2)]) (N := N__law_order_text) (sc := defScope s__law_order_text) (by decide +kernel)) (fun _ _ _ _ _ => (pg_name (i := 2) sc__law_order_text.nd rfl (.inl rfl))) (tg_name (i := 2) (by decide)) (fun _ _ _ _ _ => qts_nil) (fun _ _ _ _ _ => (qe_ifExp (qt_val (qe_callB cd_isiX rfl T.n_isinstance (by decide +kernel) (qa_cons (qv 2) (qa_cons (qe_ty (n := "tuple") rfl T.n_tuple (by decide +kernel)) qa_nil)))) (qe_call (ok__law_place_text T) (hr.mono (by omega)) rfl T.g__law_place_text T.F__law_place_text.kp T.b__law_place_text (qa_cons (qv 2) qa_nil)) (qe_callTy cd_strX rfl T.n_str (by decide +kernel) (qa_cons (qv 2) qa_nil)))))
      (qss_one (qs_ret (qe_m PySem.F.plainAttrs_str PySem.F.slot_str_join PySem.F.type_str_join md_join qe_str (qa_cons (qv 1) qa_nil))))), fun ds G R h => ?_⟩)
  · obtain ⟨p, rfl, _⟩ := h; rfl
  · obtain ⟨o, rfl, ho, h⟩ := h
    have hps := Ord.parts_small ho
    have hfit := words_fit ho
    have hpl := o.parts_len
    rw [Ord.txt_eq, show o.kind :: o.parts.map Prt.txt = (Prt.wrd o.kind :: o.parts).map Prt.txt from rfl] at h
    rw [show o.kind :: o.parts.map Prt.txt = (Prt.wrd o.kind :: o.parts).map Prt.txt from rfl] at hfit
    rw [Ord.d_eq, show D.str o.kind :: o.parts.map Prt.d = (Prt.wrd o.kind :: o.parts).map Prt.d from rfl]
    have hps2 : ∀ q ∈ Prt.wrd o.kind :: o.parts, (∀ p, q = .plc p → p.small) ∧ (∀ w, q = .num w → w ≤ 1000) := fun q hq => by
      rcases List.mem_cons.mp hq with rfl | hq
      · exact ⟨fun _ e => (by cases e), fun _ e => (by cases e)⟩
      · exact ⟨fun p e => (by subst e; exact hps _ hq), fun p e => (by subst e; exact hps _ hq)⟩
    have hpl2 : (Prt.wrd o.kind :: o.parts).length ≤ 5 := by simp only [List.length_cons]; omega
    generalize Prt.wrd o.kind :: o.parts = qs at h hfit hps2 hpl2 ⊢
    walk_at "go"
    refine lc_typ Prt.d (fun q => .str q.txt) True.intro qs [] (fun q hq Q k => ?_) _ ?_
    · cases q with
      | plc p =>
        have hp := (hps2 _ hq).1 p rfl
        dsimp only [Prt.d]
        walk_at "go"
        simp only [isi_plc]
        walk_at "go"
        exact go_place_text hp k
      | num w =>
        have hw := (hps2 _ hq).2 w rfl
        dsimp only [Prt.d]; walk_at "go"; exact k
      | wrd z => dsimp only [Prt.d]; walk_at "go"; exact k
    · rw [List.nil_append, show qs.map (fun q => D.str q.txt) = (qs.map Prt.txt).map D.str by rw [List.map_map]; rfl]
      walk_at "go"
      exact join_go (strsOf_strs _) hfit (by walk_at "go"; exact h)
theorem go_order_text {o : Ord} {G : Gp} {R : DK} (h : o.small) (k : R (.str o.txt) G) : sp__law_order_text [.tup (.str o.kind :: o.parts.map Prt.d)] G R := ⟨o, by rw [Ord.d_eq], h, k⟩
end K52


set_option Elab.async false
set_option linter.all false
set_option maxRecDepth 100000
set_option maxHeartbeats 4000000
set_option autoImplicit false
namespace K52
open PySem PySem.Spec PyProof.Rows L2 DL
local macro_rules | `(tactic| walk_at "d") => `(tactic| dsimp only [dSeq, dNext, dIfS, dRet, dRetN, dAsg, dName, dVar, dC, dOp, dUn, dChain, dB, dAnd, dOr, dNot, dAndV, dOrV, dNotV, dIf, dNil, dCons, dTup, dLst, newL, dCallB, dCall, dCallK, dDrop, dAug, dAugS, dSub, dM, dM0, dSlice, dNoPart, dPart, dLc, dYes, dFor, dIter, dRng1, dEnum, dZipM, srcD, dStar, dInK, dIxK, dLenSet, dRev,
  startD, wipeD, setAll, dNames, List.map_cons, List.map_nil, List.length_cons, List.length_nil, List.replicate, List.cons_append, List.nil_append, List.append_nil, List.getElem?_cons_zero, List.getElem?_cons_succ, List.set_cons_zero, List.set_cons_succ, List.map, Nat.zero_add, Nat.reduceAdd, Nat.reduceSub, Nat.sub_self, Nat.succ_sub_succ_eq_sub])
local macro_rules | `(tactic| walk_at "o") => `(tactic| simp only [dAdd_ii, dAdd_ss, dAdd_tt, dAdd_ll, dMinus_ii, dMul_ii, dMod_ii, dFdiv_ii, dPow_ii, dShl_ii, dNeg_i, dIadd_ii, dLt_ii, dLe_ii, dGt_ii, dGe_ii, dEq_ii, dNe_ii, dEq_ss, dNe_ss, dEq_bb, dNe_bb, dIs_n, dIsNot_n, dMax2_ii, dMin2_ii, dTuple_t, dTuple_l, dList_t, dList_l, dIx_t, dIx_l, dIx_s, dSl_t, dSl_l, dSl_s, newL_f, len_tup, len_lst])
local macro_rules | `(tactic| walk_at "w") => `(tactic| dsimp only [x_var, x_c, x_op, x_un, x_b, x_and, x_or, x_not, x_chain, x_andV, x_orV, x_notV, x_if, x_nil, x_cons, x_tup, x_lst0, x_lst1, x_callB, x_call, x_callK, x_next, x_seq, x_break, x_cont, x_drop, x_ret, x_ifS, x_asg, x_name, x_names, x_sub, x_aug, x_augS, x_for, x_lc0, x_lc1, x_yes, x_noPart, x_part, x_slice, x_iter, it_t, it_l, it_n, it_s, it_r, x_rng1, x_enum, x_rev, x_m, x_m0, x_mX, x_zip, x_star_t, x_star_l, x_lenSet, x_forgo0, x_lcgo0, x_while, x_par, x_sortK,
  br_t, br_f, isB_bl, isI_int, isN_some, slo_some, atL_lst, ix_t, ix_l, ix_n,
  dAdd_ii, dAdd_ss, dAdd_tt, dAdd_ll, dMinus_ii, dMul_ii, dMod_ii, dFdiv_ii, dPow_ii, dShl_ii, dNeg_i, dIadd_ii, dLt_ii, dLe_ii, dGt_ii, dGe_ii, ltE_ii, ltE_ss, srcD, isi_i, isi_s, isi_b, isi_n, isi_t, isi_nt, isi_l, isi2_i, isi2_s, isi2_b, isi2_n, isi2_t, isi2_nt, isi2_l, inon_n, inon_i, inon_s, inon_b, inon_t, inon_l, inon_r, dEq_ii, dNe_ii, dEq_ss, dNe_ss, dEq_bb, dNe_bb, dIs_n, dIsNot_n, dMax2_ii, dMin2_ii, dTuple_t, dTuple_l, dList_t, dList_l, dSl_t, dSl_l, dSl_s, newL_f, newL_t, app_r, int_b, int_i, strI_i, strX_i, strX_s,
  startD, wipeD, setAll, permL, List.filterMap, List.map_cons, List.map_nil, List.length_cons, List.length_nil, List.replicate, List.cons_append, List.nil_append, List.append_nil, List.getElem?_cons_zero, List.getElem?_cons_succ, List.set_cons_zero, List.set_cons_succ, List.map, Nat.zero_add, Nat.reduceAdd, Nat.reduceSub, Nat.sub_self, Nat.succ_sub_succ_eq_sub])
local macro_rules | `(tactic| walk_at "v") => `(tactic| simp only [ofString_inj, String.reduceEq, at_0, at_1, at_2, at_3, at_4, at_5, isN_some, isBB_bl, isB_bl, br_t, br_f, br_not, br_and, br_or, br_dec, ix_r, len_tup, len_lst, len_nt, ltE_key, gup_gup, gup_same, starD_one, cut1, cut2, kt1, kt2, kt3, kt4, kt5, kt6, isTy, String.reduceBEq, Bool.or_false, Bool.false_or, Bool.true_or, Bool.or_true, Bool.and_false, Bool.false_and, Bool.true_and, Bool.and_true, Bool.not_true, Bool.not_false, decide_true, decide_false, eq_self_iff_true, Bool.false_eq_true, Int.reduceAdd, Int.add_zero, if_true, if_false, true_and, and_true])
local macro_rules | `(tactic| walk_at "side") => `(tactic| first | with_reducible assumption | omega | exact mty_up | exact True.intro | (simp only [List.mem_cons, ofString_inj, String.reduceEq, true_or, or_true, List.length_map]; done) | with_reducible exact (rfl : (_ : Nat) = _) | exact (rfl : (_ : Option String) = _) | (refine small_line ?_; omega) | (walk_at "ll"; first | omega | (refine small_line ?_; omega) | fail) | (exact log_small (by omega)) | fail)
local macro_rules | `(tactic| walk_at "x") => `(tactic| fail)
local macro_rules | `(tactic| walk_at "go") => `(tactic| repeat' (first | dsimp only [x_var, x_c, x_op, x_un, x_b, x_and, x_or, x_not, x_chain, x_andV, x_orV, x_notV, x_if, x_nil, x_cons, x_tup, x_lst0, x_lst1, x_callB, x_call, x_callK, x_next, x_seq, x_break, x_cont, x_drop, x_ret, x_ifS, x_asg, x_name, x_names, x_sub, x_aug, x_augS, x_for, x_lc0, x_lc1, x_yes, x_noPart, x_part, x_slice, x_iter, it_t, it_l, it_n, it_s, it_r, x_rng1, x_enum, x_rev, x_m, x_m0, x_mX, x_zip, x_star_t, x_star_l, x_lenSet, x_forgo0, x_lcgo0, x_while, x_par, x_sortK, br_t, br_f, isB_bl, isI_int, isN_some, slo_some, atL_lst, ix_t, ix_l, ix_n, dAdd_ii, dAdd_ss, dAdd_tt, dAdd_ll, dMinus_ii, dMul_ii, dMod_ii, dFdiv_ii, dPow_ii, dShl_ii, dNeg_i, dIadd_ii, dLt_ii, dLe_ii, dGt_ii, dGe_ii, ltE_ii, ltE_ss, srcD, isi_i, isi_s, isi_b, isi_n, isi_t, isi_nt, isi_l, isi2_i, isi2_s, isi2_b, isi2_n, isi2_t, isi2_nt, isi2_l, inon_n, inon_i, inon_s, inon_b, inon_t, inon_l, inon_r, dEq_ii, dNe_ii, dEq_ss, dNe_ss, dEq_bb, dNe_bb, dIs_n, dIsNot_n, dMax2_ii, dMin2_ii, dTuple_t, dTuple_l, dList_t, dList_l, dSl_t, dSl_l, dSl_s, newL_f, newL_t, app_r, int_b, int_i, strI_i, strX_i, strX_s, startD, wipeD, setAll, permL, List.filterMap, List.map_cons, List.map_nil, List.length_cons, List.length_nil, List.replicate, List.cons_append, List.nil_append, List.append_nil, List.getElem?_cons_zero, List.getElem?_cons_succ, List.set_cons_zero, List.set_cons_succ, List.map, Nat.zero_add, Nat.reduceAdd, Nat.reduceSub, Nat.sub_self, Nat.succ_sub_succ_eq_sub] | simp only [ofString_inj, String.reduceEq, at_0, at_1, at_2, at_3, at_4, at_5, isN_some, isBB_bl, isB_bl, br_t, br_f, br_not, br_and, br_or, br_dec, ix_r, len_tup, len_lst, len_nt, ltE_key, gup_gup, gup_same, starD_one, cut1, cut2, kt1, kt2, kt3, kt4, kt5, kt6, isTy, String.reduceBEq, Bool.or_false, Bool.false_or, Bool.true_or, Bool.or_true, Bool.and_false, Bool.false_and, Bool.true_and, Bool.and_true, Bool.not_true, Bool.not_false, decide_true, decide_false, eq_self_iff_true, Bool.false_eq_true, Int.reduceAdd, Int.add_zero, if_true, if_false, true_and, and_true] | walk_at "x" | with_reducible refine kont_go ?_ | with_reducible refine rt_sub (by assumption) ?_ | with_reducible refine rt_lst (by assumption) ?_ | with_reducible refine rt_drop (by assumption) ?_ | with_reducible refine rt_keep (by assumption) (by assumption) ?_ | with_reducible refine rt_same ?_ | (refine fun (p : Addr) (_ : _ = none) => ?_) | refine join_gor gup_same rfl (by walk_at "side") ?_ | with_reducible refine lc_cons ?_ | with_reducible refine for_cons ?_ | refine join_go rfl (by walk_at "side") ?_ | refine And.intro (by first | with_reducible assumption | omega | exact mty_up | exact True.intro | (simp only [List.mem_cons, ofString_inj, String.reduceEq, true_or, or_true, List.length_map]; done) | with_reducible exact (rfl : (_ : Nat) = _) | exact (rfl : (_ : Option String) = _) | (refine small_line ?_; omega) | (walk_at "ll"; first | omega | (refine small_line ?_; omega) | fail) | (exact log_small (by omega)) | fail) ?_ | fail))
local macro_rules | `(tactic| walk_at "ll") => `(tactic| simp only [List.length_map, List.length_append, List.length_cons, List.length_nil, List.map_cons, List.map_nil, List.sum_cons, List.sum_nil, len_app, rng_length, ll_0, ll_1, ll_2, ll_3, ll_4, ll_5, ll_6, ll_7, ll_8, ll_9, ll_10, ll_11, ll_12, ll_13, ll_14, ll_15, ll_16, ll_17, ll_18, ll_19, ll_20, ll_21, ll_22, ll_23, ll_24, ll_25, ll_26, ll_27, ll_28, ll_29, ll_30, ll_31, ll_32, ll_33, ll_34, ll_35, ll_36, ll_37])
/-- where an order writes -/
def Ord.dst : Ord → Option Plc
  | .alu _ to _ _ => some to | .move to _ => some to | .put to _ => some to | .load to _ => some to | .store _ _ => none
theorem dst_ok {M : Mach} {o : Ord} {pl : Plc} (e : o.dst = some pl) (h : o.ok M) : pl.ok M := by
  cases o <;> cases e <;> first | exact h.1 | exact h.2.1
theorem keys_go {sp : DSp} {G : Gp} {Q : List D → Gp → Prop} (hs : ∀ (o : Ord) (R : DK), o.small → R (.tup [.int o.kix, .str o.txt]) G → sp [o.d] G R) : ∀ (os : List Ord) (acc : List D), (∀ o ∈ os, o.small) → Q (acc ++ os.map fun o => .tup [.int o.kix, .str o.txt]) G → dKeys sp (os.map Ord.d) acc G Q
  | [], acc, _, q => by simpa [dKeys] using q
  | o :: os, acc, h, q => by
    simp only [List.map_cons, dKeys]
    refine hs o _ (h o (List.mem_cons_self ..)) (keys_go hs os _ (fun x hx => h x (List.mem_cons_of_mem _ hx)) ?_)
    simpa using q
theorem keysP_ords : ∀ os : List Ord, keysP (os.map fun o => .tup [.int o.kix, .str o.txt]) = some (os.map Ord.key)
  | [] => rfl
  | o :: os => by simp only [List.map_cons, keysP, keyP, keysP_ords os]; rfl
/-- a row's orders, by their order -/
def sortO (os : List Ord) : List Ord := sortK os (os.map Ord.key)
theorem sortK_goS {mk : Bool} {sp : DSp} {x : D} {G : Gp} {R : DK} {os : List Ord} (e : seqOf G x = some (os.map Ord.d)) (hs : ∀ (o : Ord) (R : DK), o.small → R (.tup [.int o.kix, .str o.txt]) G → sp [o.d] G R) (hsm : ∀ o ∈ os, o.small) (h : newL mk ((sortO os).map Ord.d) G R) : dSortK1 mk sp x G R := by
  unfold dSortK1
  rw [e]
  refine keys_go hs os [] hsm ?_
  simp only [List.nil_append, keysP_ords]
  refine ⟨by simp, ?_⟩
  rw [← sortK_proj]
  exact h
theorem sortK_go {mk : Bool} {sp : DSp} {x : D} {G : Gp} {R : DK} {os : List Ord} (e : lstOf G x = some (os.map Ord.d)) (hs : ∀ (o : Ord) (R : DK), o.small → R (.tup [.int o.kix, .str o.txt]) G → sp [o.d] G R) (hsm : ∀ o ∈ os, o.small) (h : newL mk ((sortO os).map Ord.d) G R) : dSortK1 mk sp x G R := sortK_goS (seqOf_of_lst e) hs hsm h
mutual
/-- data of no great lengths -/
def wid : D → Bool
  | .tup ds => decide (ds.length ≤ 1000) && wids ds
  | .lst ds => decide (ds.length ≤ 1000) && wids ds
  | _ => true
def wids : List D → Bool
  | [] => true
  | d :: ds => wid d && wids ds
end
theorem eqs_cons {x y : D} {xs ys : List D} : eqDs (x :: xs) (y :: ys) = (eqD x y && eqDs xs ys) := by simp only [eqDs]
theorem eqs_nil : eqDs [] [] = true := by simp only [eqDs]
theorem eq_tt {xs ys : List D} : eqD (.tup xs) (.tup ys) = eqDs xs ys := by simp only [eqD]
theorem eq_s {x y : Str} : eqD (.str x) (.str y) = decide (x = y) := by simp only [eqD]; rfl
theorem eq_i {x y : Int} : eqD (.int x) (.int y) = decide (x = y) := by simp only [eqD]; rfl
theorem eqD_plc (p q : Plc) : eqD p.d q.d = decide (p = q) := by
  cases p <;> cases q <;> simp only [Plc.d, eq_tt, eqs_cons, eqs_nil, eq_s, eq_i, ofString_inj, String.reduceEq, decide_true, decide_false, Bool.and_true, Bool.true_and, Bool.false_and, Plc.reg.injEq, Plc.hid.injEq, reduceCtorEq, Int.natCast_inj]
theorem eqD_ord (x y : Ord) : eqD x.d y.d = decide (x = y) := by
  cases x <;> cases y <;> simp only [Ord.d, eq_tt, eqs_cons, eqs_nil, eq_s, eq_i, eqD_plc, ofString_inj, String.reduceEq, decide_true, decide_false, Bool.and_true, Bool.true_and, Bool.false_and, Ord.alu.injEq, Ord.move.injEq, Ord.put.injEq, Ord.load.injEq, Ord.store.injEq, reduceCtorEq, Int.natCast_inj, Bool.decide_and]
theorem name_py {z : Str} (h : nameOk z = true) : pyD (.str z) = true := by
  have := (nameOk_iff.mp h).2
  simp only [pyD, List.all_eq_true, decide_eq_true_eq]
  intro c hc
  have := this c hc
  simp only [low, Bool.and_eq_true, decide_eq_true_eq] at this
  omega
theorem Plc.py {M : Mach} (hM : M.ok) {p : Plc} (h : p.ok M) : pyD p.d = true ∧ wid p.d = true ∧ depD p.d = 1 := by
  cases p with
  | reg x =>
    have hx := name_py (hM.nm.1 x h)
    have h0 : pyD (.str "reg") = true := by decide +kernel
    simp only [Plc.d, pyD, pyDs, wid, wids, depD, depDs] at hx h0 ⊢
    simp [hx, h0]
  | hid k =>
    have h0 : pyD (.str "hid") = true := by decide +kernel
    simp only [Plc.d, pyD, pyDs, wid, wids, depD, depDs] at h0 ⊢
    simp [h0]
theorem op_py : ∀ op ∈ opL, pyD (.str op) = true := by decide +kernel
theorem Ord.py {M : Mach} (hM : M.ok) {o : Ord} (h : o.ok M) : pyD o.d = true ∧ wid o.d = true ∧ depD o.d ≤ 2 := by
  have k1 : pyD (.str "alu") = true := by decide +kernel
  have k2 : pyD (.str "move") = true := by decide +kernel
  have k3 : pyD (.str "put") = true := by decide +kernel
  have k4 : pyD (.str "load") = true := by decide +kernel
  have k5 : pyD (.str "store") = true := by decide +kernel
  cases o with
  | alu op to a b =>
    obtain ⟨h0, h1, h2, h3⟩ := h
    have h1 := Plc.py hM h1; have h2 := Plc.py hM h2; have h3 := Plc.py hM h3
    have h0 := op_py op h0
    simp only [Ord.d, pyD, pyDs, wid, wids, depD, depDs] at k1 h0 ⊢
    simp [h1, h2, h3, k1, h0]
  | put to w =>
    have h1 := Plc.py hM h.1
    simp only [Ord.d, pyD, pyDs, wid, wids, depD, depDs] at k3 ⊢
    simp [h1, k3]
  | _ =>
    have h1 := Plc.py hM h.1; have h2 := Plc.py hM h.2
    simp only [Ord.d, pyD, pyDs, wid, wids, depD, depDs] at k2 k4 k5 ⊢
    simp [h1, h2, k2, k4, k5]
theorem Plc.ky (p : Plc) : kyD p.d = true ∧ depD p.d ≤ 8 := by cases p <;> simp [Plc.d, kyD, kyDs, depD, depDs]
theorem Ord.ky (o : Ord) : kyD o.d = true ∧ depD o.d ≤ 8 := by
  cases o with
  | alu op to a b =>
    have h1 := Plc.ky to; have h2 := Plc.ky a; have h3 := Plc.ky b
    have d1 : ∀ p : Plc, depD p.d = 1 := fun p => by cases p <;> simp [Plc.d, depD, depDs]
    simp [Ord.d, kyD, kyDs, depD, depDs, h1.1, h2.1, h3.1, d1]
  | _ =>
    rename_i a b
    have h1 := Plc.ky a
    have d1 : ∀ p : Plc, depD p.d = 1 := fun p => by cases p <;> simp [Plc.d, depD, depDs]
    first
      | (have h2 := Plc.ky b; simp [Ord.d, kyD, kyDs, depD, depDs, h1.1, h2.1, d1])
      | simp [Ord.d, kyD, kyDs, depD, depDs, h1.1, d1]
/-- the places that an order writes -/
def Ord.to : Ord → List Plc
  | .alu _ to _ _ => [to] | .move to _ => [to] | .put to _ => [to] | .load to _ => [to] | .store _ _ => []
/-- how many are of a kind -/
def cntO (k : Str) (os : List Ord) : Nat := os.countP fun o => decide (o.kind = k)
def spots (os : List Ord) : List Plc := os.flatMap Ord.to
/-- whether right orders may stand in one row -/
def mayO (M : Mach) (os : List Ord) : Bool := !(decide (M.al < (cntO "alu" os : Int)) || decide (M.mo < ((cntO "move" os : Int) + (cntO "put" os : Int)))) && !decide ((1 : Int) < (cntO "load" os : Int) + (cntO "store" os : Int)) && (decide (spots os).Nodup && decide os.Nodup)
theorem cnt_cons (k : Str) (o : Ord) (os : List Ord) : cntO k (o :: os) = cntO k os + (if o.kind = k then 1 else 0) := by
  unfold cntO
  rw [List.countP_cons]
  simp
theorem ix_kind (o : Ord) {G : Gp} {R : DK} : dIndexL (.lst [.str "alu", .str "move", .str "put", .str "load", .str "store"]) [.str o.kind] G R = R (.int o.kix) G := by
  have hd : depD (.str o.kind) ≤ 60 := by simp [depD]
  have all : ∀ q ∈ ([("alu", 0), ("move", 1), ("put", 2), ("load", 3), ("store", 4)] : List (Str × Int)), pyD (.str q.1) = true ∧ pyDs [.str "alu", .str "move", .str "put", .str "load", .str "store"] = true ∧ ([D.str "alu", .str "move", .str "put", .str "load", .str "store"].any fun z => eqD z (.str q.1)) = true ∧ (([D.str "alu", .str "move", .str "put", .str "load", .str "store"].findIdx fun z => eqD z (.str q.1) : Nat) : Int) = q.2 := by decide +kernel
  have key := all (o.kind, o.kix) (by cases o <;> simp [Ord.kind, Ord.kix])
  obtain ⟨k1, k2, k3, k4⟩ := key
  refine propext ⟨fun h => ?_, fun h => ⟨k1, k2, hd, k3, ?_⟩⟩
  · have := h.2.2.2.2; rw [k4] at this; exact this
  · rw [k4]; exact h
def sp__law_key : DSp := fun ds G R => ∃ o : Ord, ds = [o.d] ∧ o.small ∧ R (.tup [.int o.kix, .str o.txt]) G
local macro_rules | `(tactic| walk_at "x") => `(tactic| first | simp only [ix_kind] | refine go_order_text (by assumption) ?_ | fail)
theorem ok__law_key {P : Program} {w : World} {K : PySem.W.Frag} {mg : Str → Option Value} {base : Heap} {a : Ad} (T : Tx w K mg a) : FnD P w K mg base 3 a.f__law_key a.fd__law_key ["one"] sp__law_key := by
  refine fun_okD T.F__law_key sc__law_key (fun ds G R h => ?_) (fun cdv A outer s H hr => ⟨_, (qss_one (qs_ret (qe_tup (qa_cons (qe_m PySem.F.plainAttrs_list PySem.F.slot_list_index PySem.F.type_list_index (md_indexL (room100 hr)) (qe_lst false (qa_cons qe_str (qa_cons qe_str (qa_cons qe_str (qa_cons qe_str (qa_cons qe_str qa_nil)))))) (qa_cons (qe_ix xd_ix (qv 0) qe_int (fun _ _ => rfl)) qa_nil)) (qa_cons (qe_call (ok__law_order_text T) (hr.mono (by omega)) rfl T.g__law_order_text T.F__law_order_text.kp T.b__law_order_text (qa_cons (qv 0) qa_nil)) qa_nil))))), fun ds G R h => ?_⟩)
  · obtain ⟨p, rfl, _⟩ := h; rfl
  · obtain ⟨o, rfl, ho, h⟩ := h
    rw [Ord.d_eq]
    walk_at "go"
    exact h
theorem go_key {o : Ord} {G : Gp} {R : DK} (h : o.small) (k : R (.tup [.int o.kix, .str o.txt]) G) : sp__law_key [o.d] G R := ⟨o, rfl, h, k⟩
def dstD (o : Ord) : D := match o.dst with | some p => p.d | none => .non
def sp__law_to : DSp := fun ds G R => ∃ o : Ord, ds = [o.d] ∧ R (dstD o) G
local macro_rules | `(tactic| walk_at "x") => `(tactic| first | simp only [x_litGet2, dv_cons, dv_nil] | fail)
theorem ok__law_to {P : Program} {w : World} {K : PySem.W.Frag} {mg : Str → Option Value} {base : Heap} {a : Ad} (T : Tx w K mg a) : FnD P w K mg base 1 a.f__law_to a.fd__law_to ["one"] sp__law_to := by
  refine fun_okD T.F__law_to sc__law_to (fun ds G R h => ?_) (fun cdv A outer s H hr => ⟨_, (qss_one (qs_ret (qe_litGet2 (l := [("alu", _), ("store", _)]) (rm1 (room100 hr)) (pps_cons qe_str (qe_ix xd_ix (qv 0) qe_int (fun _ _ => rfl)) (pps_cons qe_str qe_non pps_nil)) (qe_ix xd_ix (qv 0) qe_int (fun _ _ => rfl)) (qe_ix xd_ix (qv 0) qe_int (fun _ _ => rfl)) ⟨rfl, rfl, rfl, rfl⟩))), fun ds G R h => ?_⟩)
  · obtain ⟨p, rfl, _⟩ := h; rfl
  · obtain ⟨o, rfl, h⟩ := h
    cases o with
    | alu op t x y =>
      dsimp only [Ord.d]
      walk_at "go"
      rw [lookD_hit, Option.getD_some]
      walk_at "go"
      exact h
    | store x y =>
      dsimp only [Ord.d]
      walk_at "go"
      rw [lookD_miss (by simp only [ne_eq, ofString_inj, String.reduceEq, not_false_eq_true]), lookD_hit, Option.getD_some]
      walk_at "go"
      exact h
    | _ =>
      dsimp only [Ord.d]
      walk_at "go"
      rw [lookD_miss (by simp only [ne_eq, ofString_inj, String.reduceEq, not_false_eq_true]), lookD_miss (by simp only [ne_eq, ofString_inj, String.reduceEq, not_false_eq_true]), lookD_nil, Option.getD_none]
      walk_at "go"
      exact h
theorem go_to {o : Ord} {G : Gp} {R : DK} (k : R (dstD o) G) : sp__law_to [o.d] G R := ⟨o, rfl, k⟩
end K52


set_option Elab.async false
set_option linter.all false
set_option maxRecDepth 100000
set_option maxHeartbeats 4000000
set_option autoImplicit false
namespace K52
open PySem PySem.Spec PyProof.Rows L2 DL
local macro_rules | `(tactic| walk_at "d") => `(tactic| dsimp only [dSeq, dNext, dIfS, dRet, dRetN, dAsg, dName, dVar, dC, dOp, dUn, dChain, dB, dAnd, dOr, dNot, dAndV, dOrV, dNotV, dIf, dNil, dCons, dTup, dLst, newL, dCallB, dCall, dCallK, dDrop, dAug, dAugS, dSub, dM, dM0, dSlice, dNoPart, dPart, dLc, dYes, dFor, dIter, dRng1, dEnum, dZipM, srcD, dStar, dInK, dIxK, dLenSet, dRev,
  startD, wipeD, setAll, dNames, List.map_cons, List.map_nil, List.length_cons, List.length_nil, List.replicate, List.cons_append, List.nil_append, List.append_nil, List.getElem?_cons_zero, List.getElem?_cons_succ, List.set_cons_zero, List.set_cons_succ, List.map, Nat.zero_add, Nat.reduceAdd, Nat.reduceSub, Nat.sub_self, Nat.succ_sub_succ_eq_sub])
local macro_rules | `(tactic| walk_at "o") => `(tactic| simp only [dAdd_ii, dAdd_ss, dAdd_tt, dAdd_ll, dMinus_ii, dMul_ii, dMod_ii, dFdiv_ii, dPow_ii, dShl_ii, dNeg_i, dIadd_ii, dLt_ii, dLe_ii, dGt_ii, dGe_ii, dEq_ii, dNe_ii, dEq_ss, dNe_ss, dEq_bb, dNe_bb, dIs_n, dIsNot_n, dMax2_ii, dMin2_ii, dTuple_t, dTuple_l, dList_t, dList_l, dIx_t, dIx_l, dIx_s, dSl_t, dSl_l, dSl_s, newL_f, len_tup, len_lst])
local macro_rules | `(tactic| walk_at "w") => `(tactic| dsimp only [x_var, x_c, x_op, x_un, x_b, x_and, x_or, x_not, x_chain, x_andV, x_orV, x_notV, x_if, x_nil, x_cons, x_tup, x_lst0, x_lst1, x_callB, x_call, x_callK, x_next, x_seq, x_break, x_cont, x_drop, x_ret, x_ifS, x_asg, x_name, x_names, x_sub, x_aug, x_augS, x_for, x_lc0, x_lc1, x_yes, x_noPart, x_part, x_slice, x_iter, it_t, it_l, it_n, it_s, it_r, x_rng1, x_enum, x_rev, x_m, x_m0, x_mX, x_zip, x_star_t, x_star_l, x_lenSet, x_forgo0, x_lcgo0, x_while, x_par, x_sortK,
  br_t, br_f, isB_bl, isI_int, isN_some, slo_some, atL_lst, ix_t, ix_l, ix_n,
  dAdd_ii, dAdd_ss, dAdd_tt, dAdd_ll, dMinus_ii, dMul_ii, dMod_ii, dFdiv_ii, dPow_ii, dShl_ii, dNeg_i, dIadd_ii, dLt_ii, dLe_ii, dGt_ii, dGe_ii, ltE_ii, ltE_ss, srcD, isi_i, isi_s, isi_b, isi_n, isi_t, isi_nt, isi_l, isi2_i, isi2_s, isi2_b, isi2_n, isi2_t, isi2_nt, isi2_l, inon_n, inon_i, inon_s, inon_b, inon_t, inon_l, inon_r, dEq_ii, dNe_ii, dEq_ss, dNe_ss, dEq_bb, dNe_bb, dIs_n, dIsNot_n, dMax2_ii, dMin2_ii, dTuple_t, dTuple_l, dList_t, dList_l, dSl_t, dSl_l, dSl_s, newL_f, newL_t, app_r, int_b, int_i, strI_i, strX_i, strX_s,
  startD, wipeD, setAll, permL, List.filterMap, List.map_cons, List.map_nil, List.length_cons, List.length_nil, List.replicate, List.cons_append, List.nil_append, List.append_nil, List.getElem?_cons_zero, List.getElem?_cons_succ, List.set_cons_zero, List.set_cons_succ, List.map, Nat.zero_add, Nat.reduceAdd, Nat.reduceSub, Nat.sub_self, Nat.succ_sub_succ_eq_sub])
local macro_rules | `(tactic| walk_at "v") => `(tactic| simp only [ofString_inj, String.reduceEq, at_0, at_1, at_2, at_3, at_4, at_5, isN_some, isBB_bl, isB_bl, br_t, br_f, br_not, br_and, br_or, br_dec, ix_r, len_tup, len_lst, len_nt, ltE_key, gup_gup, gup_same, starD_one, cut1, cut2, kt1, kt2, kt3, kt4, kt5, kt6, isTy, String.reduceBEq, Bool.or_false, Bool.false_or, Bool.true_or, Bool.or_true, Bool.and_false, Bool.false_and, Bool.true_and, Bool.and_true, Bool.not_true, Bool.not_false, decide_true, decide_false, eq_self_iff_true, Bool.false_eq_true, Int.reduceAdd, Int.add_zero, if_true, if_false, true_and, and_true])
local macro_rules | `(tactic| walk_at "side") => `(tactic| first | with_reducible assumption | omega | exact mty_up | exact True.intro | (simp only [List.mem_cons, ofString_inj, String.reduceEq, true_or, or_true, List.length_map]; done) | with_reducible exact (rfl : (_ : Nat) = _) | exact (rfl : (_ : Option String) = _) | (refine small_line ?_; omega) | (walk_at "ll"; first | omega | (refine small_line ?_; omega) | fail) | (exact log_small (by omega)) | fail)
local macro_rules | `(tactic| walk_at "x") => `(tactic| fail)
local macro_rules | `(tactic| walk_at "go") => `(tactic| repeat' (first | dsimp only [x_var, x_c, x_op, x_un, x_b, x_and, x_or, x_not, x_chain, x_andV, x_orV, x_notV, x_if, x_nil, x_cons, x_tup, x_lst0, x_lst1, x_callB, x_call, x_callK, x_next, x_seq, x_break, x_cont, x_drop, x_ret, x_ifS, x_asg, x_name, x_names, x_sub, x_aug, x_augS, x_for, x_lc0, x_lc1, x_yes, x_noPart, x_part, x_slice, x_iter, it_t, it_l, it_n, it_s, it_r, x_rng1, x_enum, x_rev, x_m, x_m0, x_mX, x_zip, x_star_t, x_star_l, x_lenSet, x_forgo0, x_lcgo0, x_while, x_par, x_sortK, br_t, br_f, isB_bl, isI_int, isN_some, slo_some, atL_lst, ix_t, ix_l, ix_n, dAdd_ii, dAdd_ss, dAdd_tt, dAdd_ll, dMinus_ii, dMul_ii, dMod_ii, dFdiv_ii, dPow_ii, dShl_ii, dNeg_i, dIadd_ii, dLt_ii, dLe_ii, dGt_ii, dGe_ii, ltE_ii, ltE_ss, srcD, isi_i, isi_s, isi_b, isi_n, isi_t, isi_nt, isi_l, isi2_i, isi2_s, isi2_b, isi2_n, isi2_t, isi2_nt, isi2_l, inon_n, inon_i, inon_s, inon_b, inon_t, inon_l, inon_r, dEq_ii, dNe_ii, dEq_ss, dNe_ss, dEq_bb, dNe_bb, dIs_n, dIsNot_n, dMax2_ii, dMin2_ii, dTuple_t, dTuple_l, dList_t, dList_l, dSl_t, dSl_l, dSl_s, newL_f, newL_t, app_r, int_b, int_i, strI_i, strX_i, strX_s, startD, wipeD, setAll, permL, List.filterMap, List.map_cons, List.map_nil, List.length_cons, List.length_nil, List.replicate, List.cons_append, List.nil_append, List.append_nil, List.getElem?_cons_zero, List.getElem?_cons_succ, List.set_cons_zero, List.set_cons_succ, List.map, Nat.zero_add, Nat.reduceAdd, Nat.reduceSub, Nat.sub_self, Nat.succ_sub_succ_eq_sub] | simp only [ofString_inj, String.reduceEq, at_0, at_1, at_2, at_3, at_4, at_5, isN_some, isBB_bl, isB_bl, br_t, br_f, br_not, br_and, br_or, br_dec, ix_r, len_tup, len_lst, len_nt, ltE_key, gup_gup, gup_same, starD_one, cut1, cut2, kt1, kt2, kt3, kt4, kt5, kt6, isTy, String.reduceBEq, Bool.or_false, Bool.false_or, Bool.true_or, Bool.or_true, Bool.and_false, Bool.false_and, Bool.true_and, Bool.and_true, Bool.not_true, Bool.not_false, decide_true, decide_false, eq_self_iff_true, Bool.false_eq_true, Int.reduceAdd, Int.add_zero, if_true, if_false, true_and, and_true] | walk_at "x" | with_reducible refine kont_go ?_ | with_reducible refine rt_sub (by assumption) ?_ | with_reducible refine rt_lst (by assumption) ?_ | with_reducible refine rt_drop (by assumption) ?_ | with_reducible refine rt_keep (by assumption) (by assumption) ?_ | with_reducible refine rt_same ?_ | (refine fun (p : Addr) (_ : _ = none) => ?_) | refine join_gor gup_same rfl (by walk_at "side") ?_ | with_reducible refine lc_cons ?_ | with_reducible refine for_cons ?_ | refine join_go rfl (by walk_at "side") ?_ | refine And.intro (by first | with_reducible assumption | omega | exact mty_up | exact True.intro | (simp only [List.mem_cons, ofString_inj, String.reduceEq, true_or, or_true, List.length_map]; done) | with_reducible exact (rfl : (_ : Nat) = _) | exact (rfl : (_ : Option String) = _) | (refine small_line ?_; omega) | (walk_at "ll"; first | omega | (refine small_line ?_; omega) | fail) | (exact log_small (by omega)) | fail) ?_ | fail))
local macro_rules | `(tactic| walk_at "ll") => `(tactic| simp only [List.length_map, List.length_append, List.length_cons, List.length_nil, List.map_cons, List.map_nil, List.sum_cons, List.sum_nil, len_app, rng_length, ll_0, ll_1, ll_2, ll_3, ll_4, ll_5, ll_6, ll_7, ll_8, ll_9, ll_10, ll_11, ll_12, ll_13, ll_14, ll_15, ll_16, ll_17, ll_18, ll_19, ll_20, ll_21, ll_22, ll_23, ll_24, ll_25, ll_26, ll_27, ll_28, ll_29, ll_30, ll_31, ll_32, ll_33, ll_34, ll_35, ll_36, ll_37])
/-! ### a row drawn -/
theorem nodup_spots : ∀ {os : List Ord}, (spots os).Nodup → cntO "store" os ≤ 1 → os.Nodup
  | [], _, _ => List.nodup_nil
  | o :: os, h1, h2 => by
    have hs : spots (o :: os) = o.to ++ spots os := by unfold spots; rw [List.flatMap_cons]
    rw [hs] at h1
    rw [cnt_cons] at h2
    have ih := nodup_spots (os := os) (List.nodup_append.mp h1).2.1 (by omega)
    refine List.nodup_cons.mpr ⟨fun hm => ?_, ih⟩
    have hd : ∀ p ∈ o.to, p ∈ spots os := fun p hp => List.mem_flatMap.mpr ⟨o, hm, hp⟩
    by_cases hk : o.kind = "store"
    · rw [if_pos hk] at h2
      have : 0 < cntO "store" os := List.countP_pos_iff.mpr ⟨o, hm, decide_eq_true hk⟩
      omega
    · have : ∃ p, p ∈ o.to := by
        cases o with
        | store a b => exact absurd rfl hk
        | alu op t a b => exact ⟨t, List.mem_singleton.mpr rfl⟩
        | move t a => exact ⟨t, List.mem_singleton.mpr rfl⟩
        | put t w => exact ⟨t, List.mem_singleton.mpr rfl⟩
        | load t a => exact ⟨t, List.mem_singleton.mpr rfl⟩
      obtain ⟨p, hp⟩ := this
      exact (List.nodup_append.mp h1).2.2 p hp p (hd p hp) rfl
theorem cnt_map (k : Str) (os : List Ord) : cntO k os = (os.map Ord.kind).count k := by
  unfold cntO
  induction os with
  | nil => rfl
  | cons o os ih =>
    rw [List.countP_cons, ih, List.map_cons, List.count_cons]
    by_cases e : o.kind = k
    · simp [e]
    · simp [e]
structure WordsOk (M : Mach) (ws : List Str) : Prop where
  k5 : ∀ w ∈ ws, w ∈ kinds5
  len : ws.length ≤ 7
  al : (ws.count (Str.ofString "alu") : Int) ≤ M.al
  mo : (ws.count (Str.ofString "move") : Int) + (ws.count (Str.ofString "put") : Int) ≤ M.mo
  me : ws.count (Str.ofString "load") + ws.count (Str.ofString "store") ≤ 1
theorem may_of {M : Mach} {os : List Ord} {ws : List Str} (hw : WordsOk M ws) (hs : (os.map Ord.kind).Sublist ws) (hn : (spots os).Nodup) : mayO M os = true ∧ os.length ≤ 7 := by
  have c : ∀ k, cntO k os ≤ ws.count k := fun k => by rw [cnt_map]; exact hs.count_le k
  have c1 := c (Str.ofString "alu"); have c2 := c (Str.ofString "move"); have c3 := c (Str.ofString "put"); have c4 := c (Str.ofString "load"); have c5 := c (Str.ofString "store")
  have h1 := hw.al; have h2 := hw.mo; have h3 := hw.me
  have hl := hs.length_le
  rw [List.length_map] at hl
  have hl2 := hw.len
  refine ⟨?_, by omega⟩
  have n := nodup_spots hn (by omega)
  simp only [mayO, Bool.and_eq_true, Bool.not_eq_true', Bool.or_eq_false_iff, decide_eq_false_iff_not, decide_eq_true_eq]
  exact ⟨⟨⟨by omega, by omega⟩, by omega⟩, hn, n⟩
theorem in_dsts {os : List Ord} {p : Plc} : ((os.map dstD).any fun z => eqD z p.d) = decide (p ∈ spots os) := by
  rw [Bool.eq_iff_iff, List.any_eq_true, decide_eq_true_eq]
  unfold spots
  rw [List.mem_flatMap]
  constructor
  · rintro ⟨z, hz, h⟩
    obtain ⟨o, ho, rfl⟩ := List.mem_map.mp hz
    refine ⟨o, ho, ?_⟩
    cases o with
    | store a b => cases p <;> simp [dstD, Ord.dst, Plc.d, eqD] at h
    | alu op t a b => rw [show dstD (.alu op t a b) = t.d from rfl, eqD_plc, decide_eq_true_eq] at h; exact List.mem_singleton.mpr h.symm
    | move t a => rw [show dstD (.move t a) = t.d from rfl, eqD_plc, decide_eq_true_eq] at h; exact List.mem_singleton.mpr h.symm
    | put t a => rw [show dstD (.put t a) = t.d from rfl, eqD_plc, decide_eq_true_eq] at h; exact List.mem_singleton.mpr h.symm
    | load t a => rw [show dstD (.load t a) = t.d from rfl, eqD_plc, decide_eq_true_eq] at h; exact List.mem_singleton.mpr h.symm
  · rintro ⟨o, ho, h⟩
    refine ⟨dstD o, List.mem_map.mpr ⟨o, ho, rfl⟩, ?_⟩
    cases o with
    | store a b => cases h
    | alu op t a b => rw [show dstD (.alu op t a b) = t.d from rfl, eqD_plc, decide_eq_true_eq]; exact (List.mem_singleton.mp h).symm
    | move t a => rw [show dstD (.move t a) = t.d from rfl, eqD_plc, decide_eq_true_eq]; exact (List.mem_singleton.mp h).symm
    | put t a => rw [show dstD (.put t a) = t.d from rfl, eqD_plc, decide_eq_true_eq]; exact (List.mem_singleton.mp h).symm
    | load t a => rw [show dstD (.load t a) = t.d from rfl, eqD_plc, decide_eq_true_eq]; exact (List.mem_singleton.mp h).symm
theorem plc_py {M : Mach} (hM : M.ok) {p : Plc} (h : p.ok M) : pyD p.d = true := by
  cases p with
  | hid k =>
    have r : pyD (.str "hid") = true := py_of "hid"
    unfold Plc.d
    simp only [pyD, pyDs, Bool.and_eq_true] at r ⊢
    exact ⟨r, trivial, trivial⟩
  | reg x =>
    have hx := nameOk_iff.mp (hM.nm.ok x h)
    have : pyD (.str x) = true := by
      rw [py_str]
      intro c hc
      have := hx.2 c hc
      simp only [low, Bool.and_eq_true, decide_eq_true_eq] at this
      omega
    have r : pyD (.str "reg") = true := py_of "reg"
    unfold Plc.d
    simp only [pyD, pyDs, Bool.and_eq_true] at this r ⊢
    exact ⟨r, this, trivial⟩
theorem dst_py {M : Mach} (hM : M.ok) {o : Ord} (h : o.ok M) : pyD (dstD o) = true := by
  cases o with
  | store a b => rfl
  | alu op t a b => exact plc_py hM h.2.1
  | move t a => exact plc_py hM h.1
  | put t a => exact plc_py hM h.1
  | load t a => exact plc_py hM h.1
theorem dsts_py {M : Mach} (hM : M.ok) : ∀ {os : List Ord}, (∀ o ∈ os, o.ok M) → pyDs (os.map dstD) = true
  | [], _ => rfl
  | o :: os, h => by
    simp only [List.map_cons, pyDs, Bool.and_eq_true]
    exact ⟨dst_py hM (h o List.mem_cons_self), dsts_py hM fun x hx => h x (List.mem_cons_of_mem _ hx)⟩
theorem to_none {o : Ord} (h : o.dst = none) : o.to = [] := by cases o <;> first | rfl | cases h
theorem to_some {o : Ord} {p : Plc} (h : o.dst = some p) : o.to = [p] ∧ dstD o = p.d := by cases o <;> first | (cases h; exact ⟨rfl, rfl⟩) | cases h
theorem spots_app (a b : List Ord) : spots (a ++ b) = spots a ++ spots b := by unfold spots; rw [List.flatMap_append]
theorem inE_L {f : Bool → Bool} {x : D} {ds : List D} {G : Gp} {R : DK} (hn : ∀ z, x ≠ .str z) (h1 : pyD x = true) (h2 : pyDs ds = true) (h3 : depD x ≤ 60) (k : R (.bl (f (ds.any fun z => eqD z x))) G) : dInE f x (.lst ds) G R := by
  cases x with
  | str z => exact absurd rfl (hn z)
  | _ => exact ⟨h1, h2, h3, k⟩
def sp__law_orders : DSp := fun ds G R => ∃ s M n o, ds = [.ref s, Mach.d M] ∧ M.ok ∧ G s = some o ∧ BagO n o ∧ n ≤ 850000 ∧ ∀ (os : List Ord) o', (∀ x ∈ os, x.ok M) → os.length ≤ 7 → mayO M os = true → BagO (n + 70) o' → R (.tup ((sortO os).map Ord.d)) (gup G s o')
local macro_rules | `(tactic| walk_at "x") => `(tactic| first | refine go_draw (by first | exact gup_same | assumption | fail) (by assumption) (by omega) (by walk_at "side") (by walk_at "side") fun _ _ _ _ => ?_ | refine go_to ?_ | fail)
theorem ok__law_orders {P : Program} {w : World} {K : PySem.W.Frag} {mg : Str → Option Value} {base : Heap} {a : Ad} (T : Tx w K mg a) : FnD P w K mg base 6 a.f__law_orders a.fd__law_orders ["bag", "kit"] sp__law_orders := by
  refine fun_okD T.F__law_orders sc__law_orders (fun ds G R h => ?_) (fun cdv A outer s H hr => ⟨_, (qss_cons (qs_set (i := 2) sc__law_orders.nd rfl (.inl rfl) (qe_op (od_rep false) (qe_lst true (qa_cons qe_str qa_nil)) (qe_call (ok__law_draw T) (hr.mono (by omega)) rfl T.g__law_draw T.F__law_draw.kp T.b__law_draw (qa_cons (qv 0) (qa_cons (qe_op (od_add false) (qe_ix xd_ix (qv 1) qe_int (fun _ _ => rfl)) qe_int) qa_nil)))))
      (qss_cons (qs_set (i := 2) sc__law_orders.nd rfl (.inl rfl) (qe_op (od_add false) (qv 2) (qe_lc false rfl sc__law_orders.nd (qi_range1 rfl T.n_range (qa_cons (qe_call (ok__law_draw T) (hr.mono (by omega)) rfl T.g__law_draw T.F__law_draw.kp T.b__law_draw (qa_cons (qv 0) (qa_cons (qe_op (od_add false) (qe_ix xd_ix (qv 1) qe_int (fun _ _ => rfl)) qe_int) qa_nil))) qa_nil)) (blkOk_by (own := [("k", 6)]) (N := N__law_orders) (sc := defScope s__law_orders) (by decide +kernel)) (fun _ _ _ _ _ => (pg_name (i := 6) sc__law_orders.nd rfl (.inl rfl))) (tg_name (i := 6) (by decide)) (fun _ _ _ _ _ => qts_nil) (fun _ _ _ _ _ => (qe_ix xd_ix (qe_lst false (qa_cons qe_str (qa_cons qe_str qa_nil))) (qe_call (ok__law_draw T) (hr.mono (by omega)) rfl T.g__law_draw T.F__law_draw.kp T.b__law_draw (qa_cons (qv 0) (qa_cons qe_int qa_nil))) (fun _ _ => rfl))))))
      (qss_cons (qs_set (i := 2) sc__law_orders.nd rfl (.inl rfl) (qe_op (od_add false) (qv 2) (qe_ix xd_ix (qe_lst false (qa_cons (qe_lst false qa_nil) (qa_cons (qe_lst false (qa_cons qe_str qa_nil)) (qa_cons (qe_lst false (qa_cons qe_str qa_nil)) (qa_cons (qe_lst false qa_nil) qa_nil))))) (qe_call (ok__law_draw T) (hr.mono (by omega)) rfl T.g__law_draw T.F__law_draw.kp T.b__law_draw (qa_cons (qv 0) (qa_cons qe_int qa_nil))) (fun _ _ => rfl))))
      (qss_cons (qs_set (i := 3) sc__law_orders.nd rfl (.inl rfl) (qe_lst true qa_nil))
      (qss_cons (qs_for PassesOwn.never rfl (qi_seq (qv 2)) (qg_of (pg_name (i := 4) sc__law_orders.nd rfl (.inl rfl)) (tg_name (i := 4) (ws := [4]) (by decide)))
      (qss_cons (qs_set (i := 5) sc__law_orders.nd rfl (.inl rfl) (qe_call (ok__law_order T) (hr.mono (by omega)) rfl T.g__law_order T.F__law_order.kp T.b__law_order (qa_cons (qv 0) (qa_cons (qv 1) (qa_cons (qv 4) qa_nil)))))
      (qss_one (qs_if (QW.pt (qw_or (qt_cmp od_is (qe_call (ok__law_to T) (hr.mono (by omega)) rfl T.g__law_to T.F__law_to.kp T.b__law_to (qa_cons (qv 5) qa_nil)) qe_non (nomark _)) (qw_or1 (qt_cmp (od_notInE (room100 hr)) (qe_call (ok__law_to T) (hr.mono (by omega)) rfl T.g__law_to T.F__law_to.kp T.b__law_to (qa_cons (qv 5) qa_nil)) (qe_lc false rfl sc__law_orders.nd (qi_seq (qv 3)) (blkOk_by (own := [("other", 7)]) (N := N__law_orders) (sc := defScope s__law_orders) (by decide +kernel)) (fun _ _ _ _ _ => (pg_name (i := 7) sc__law_orders.nd rfl (.inl rfl))) (tg_name (i := 7) (by decide)) (fun _ _ _ _ _ => qts_nil) (fun _ _ _ _ _ => (qe_call (ok__law_to T) (hr.mono (by omega)) rfl T.g__law_to T.F__law_to.kp T.b__law_to (qa_cons (qv 7) qa_nil)))) rfl))))
      (qss_one (qs_expr (qe_m PySem.F.plainAttrs_list PySem.F.slot_list_append PySem.F.type_list_append md_append (qv 3) (qa_cons (qv 5) qa_nil))))
      qss_nil))))
      (qss_one (qs_ret (qe_callTy cd_tuple rfl T.n_tuple (by decide +kernel) (qa_cons (qe_sortK false (ok__law_key T) (hr.mono (by omega)) T.b__law_key rfl T.n_sorted rfl T.g__law_key (qv 3)) qa_nil))))))))), fun ds G R h => ?_⟩)
  · obtain ⟨s, M, n, o, rfl, _⟩ := h; rfl
  · obtain ⟨s, M, n, o, rfl, hM, e, ho, hn, h⟩ := h
    have ha1 := hM.a1; have ha2 := hM.a2; have hm1 := hM.m1; have hm2 := hM.m2
    refine seq_cut (fun σ' G' => ∃ (k : Nat) (o1 : GO), σ' = [some (.ref s), some M.d, some (.lst ((List.replicate k (("alu" : String) : Str)).map .str)), none, none, none, none, none] ∧ (k : Int) ≤ M.al ∧ Ext s G G' ∧ G' s = some o1 ∧ BagO (n + 1) o1) ?_ (fun N1 hN1 => ?_)
    rotate_left
    · unfold Mach.d
      walk_at "go"
      rename_i q nq
      have hsq : s ≠ q := fr_ne e nq
      refine go_draw (by rw [gup_ne hsq]; exact e) ho (by omega) (by omega) (by omega) fun k o1 hk ho1 => ?_
      refine rep_go (ds := [.str (("alu" : String) : Str)]) (by rw [gup_ne hsq.symm, gup_same]) (by omega) (by omega) (by rw [sizeLine_eq]; simp only [List.length_cons, List.length_nil]; omega) ?_
      walk_at "go"
      refine hN1 _ _ ⟨k, o1, ?_, by omega, ((Ext.refl s G).new nq hsq).self, gup_same, ho1⟩
      have : (List.replicate k [D.str (("alu" : String) : Str)]).flatten = (List.replicate k (("alu" : String) : Str)).map .str := by
        clear hk
        induction k with
        | zero => rfl
        | succ k ih => rw [List.replicate_succ, List.flatten_cons, ih, List.replicate_succ]; rfl
      rw [Int.toNat_natCast, this]; rfl
    rintro σ G1 ⟨k, o1, rfl, hk, hx1, e1, ho1⟩
    refine seq_cut (fun σ' G' => ∃ (mv : List Str) (o1 : GO), σ' = [some (.ref s), some M.d, some (.lst ((List.replicate k (("alu" : String) : Str) ++ mv).map .str)), none, none, none, none, none] ∧ (mv.length : Int) ≤ M.mo ∧ (∀ w ∈ mv, w = "move" ∨ w = "put") ∧ Ext s G G' ∧ G' s = some o1 ∧ BagO (n + 5) o1) ?_ (fun N1 hN1 => ?_)
    rotate_left
    · unfold Mach.d
      walk_at "go"
      rename_i r o2 hr ho2
      refine lc_go (fun rest acc G' => ∃ (mv : List Str) (o3 : GO), acc = mv.map .str ∧ (∀ w ∈ mv, w = "move" ∨ w = "put") ∧ mv.length + rest.length = r ∧ Ext s G G' ∧ G' s = some o3 ∧ BagO (n + 2 + mv.length) o3) ?turn ?fin _ _ _ ⟨[], o2, rfl, fun _ h => (by cases h), by simp [rng_length], hx1.self, gup_same, ho2⟩
      case fin =>
        rintro acc G' ⟨mv, o3, rfl, hmv, hl, hx3, e3, ho3⟩
        simp only [List.length_nil, Nat.add_zero] at hl
        refine ⟨True.intro, ?_⟩
        walk_at "go"
        refine ⟨by rw [sizeLine_eq]; simp only [List.length_map, List.length_replicate]; omega, ?_⟩
        rw [← List.map_append]
        exact hN1 _ _ ⟨mv, o3, rfl, by omega, hmv, hx3, e3, ho3.mono (by omega)⟩
      case turn =>
        rintro x rest acc G' ⟨mv, o3, rfl, hmv, hl, hx3, e3, ho3⟩
        simp only [List.length_cons] at hl
        refine ⟨True.intro, fun N hN => ?_⟩
        walk_at "go"
        rename_i r1 o4 hr1 ho4
        refine pick (by walk_at "side") fun x hx => ?_
        simp only [List.mem_cons, List.not_mem_nil, or_false] at hx
        have key : ∀ w : Str, (w = "move" ∨ w = "put") → N (mv.map .str ++ [.str w]) (gup G' s o4) := fun w hw =>
          hN _ _ ⟨mv ++ [w], o4, by simp, fun z hz => (by
            rcases List.mem_append.mp hz with hz | hz
            · exact hmv z hz
            · rw [List.mem_singleton] at hz; rw [hz]; exact hw), by simp only [List.length_append, List.length_cons, List.length_nil]; omega, hx3.self, gup_same, ho4.mono (by simp only [List.length_append, List.length_cons, List.length_nil]; omega)⟩
        rcases hx with rfl | rfl
        · walk_at "go"; exact key _ (.inl rfl)
        · walk_at "go"; exact key _ (.inr rfl)
    rintro σ G2 ⟨mv, o2, rfl, hml, hmv, hx2, e2, ho2⟩
    refine seq_cut (fun σ' G' => ∃ (ws : List Str) (o1 : GO), σ' = [some (.ref s), some M.d, some (.lst (ws.map .str)), none, none, none, none, none] ∧ WordsOk M ws ∧ Ext s G G' ∧ G' s = some o1 ∧ BagO (n + 6) o1) ?_ (fun N1 hN1 => ?_)
    rotate_left
    · walk_at "go"
      rename_i r o3 hr ho3
      refine pick (by walk_at "side") fun x hx => ?_
      simp only [List.mem_cons, List.not_mem_nil, or_false] at hx
      have key : ∀ last : List Str, (last = [] ∨ last = [(("load" : String) : Str)] ∨ last = [(("store" : String) : Str)]) → dAdd false (.lst ((List.replicate k (("alu" : String) : Str) ++ mv).map .str)) (.lst (last.map .str)) (gup G2 s o3) fun x G1 => N1 [some (.ref s), some M.d, some x, none, none, none, none, none] G1 := by
        intro last hl
        have hll : last.length ≤ 1 := by rcases hl with rfl | rfl | rfl <;> simp
        have cmv : ∀ z : Str, z ≠ "move" → z ≠ "put" → mv.count z = 0 := fun z h1 h2 => List.count_eq_zero.mpr fun hz => by
          rcases hmv z hz with h | h
          · exact h1 h
          · exact h2 h
        have cm : mv.count (Str.ofString "move") + mv.count (Str.ofString "put") ≤ mv.length := by
          clear cmv hml
          induction mv with
          | nil => simp
          | cons a mv ih =>
            have := ih fun z hz => hmv z (List.mem_cons_of_mem _ hz)
            rw [List.count_cons, List.count_cons, List.length_cons]
            have hne : ((("move" : String) : Str) == (("put" : String) : Str)) = false := by decide +kernel
            have hne2 : ((("put" : String) : Str) == (("move" : String) : Str)) = false := by decide +kernel
            rcases hmv a List.mem_cons_self with rfl | rfl
            · simp only [BEq.rfl, hne, if_true, Bool.false_eq_true, if_false]; omega
            · simp only [BEq.rfl, hne2, if_true, Bool.false_eq_true, if_false]; omega
        have cr : ∀ z : Str, z ≠ "alu" → (List.replicate k (("alu" : String) : Str)).count z = 0 := fun z h1 => List.count_eq_zero.mpr fun hz => h1 (List.mem_replicate.mp hz).2
        refine ⟨by rw [sizeLine_eq]; simp only [List.length_map, List.length_append, List.length_replicate]; omega, ?_⟩
        rw [newL_f, ← List.map_append]
        refine hN1 _ _ ⟨_, o3, rfl, ⟨fun w hw => ?_, ?_, ?_, ?_, ?_⟩, hx2.self, gup_same, ho3⟩
        · rcases List.mem_append.mp hw with hw | hw
          · rcases List.mem_append.mp hw with hw | hw
            · rw [(List.mem_replicate.mp hw).2]; simp [kinds5]
            · rcases hmv w hw with rfl | rfl <;> simp [kinds5]
          · rcases hl with rfl | rfl | rfl
            · cases hw
            · rw [List.mem_singleton.mp hw]; simp [kinds5]
            · rw [List.mem_singleton.mp hw]; simp [kinds5]
        · simp only [List.length_append, List.length_replicate]; omega
        · rw [List.count_append, List.count_append, cmv (Str.ofString "alu") (by decide +kernel) (by decide +kernel), List.count_replicate_self]
          have : last.count (Str.ofString "alu") = 0 := by rcases hl with rfl | rfl | rfl <;> decide +kernel
          omega
        · rw [List.count_append, List.count_append, List.count_append, List.count_append, cr (Str.ofString "move") (by decide +kernel), cr (Str.ofString "put") (by decide +kernel)]
          have : last.count (Str.ofString "move") = 0 := by rcases hl with rfl | rfl | rfl <;> decide +kernel
          have : last.count (Str.ofString "put") = 0 := by rcases hl with rfl | rfl | rfl <;> decide +kernel
          omega
        · rw [List.count_append, List.count_append, List.count_append, List.count_append, cr (Str.ofString "load") (by decide +kernel), cr (Str.ofString "store") (by decide +kernel), cmv (Str.ofString "load") (by decide +kernel) (by decide +kernel), cmv (Str.ofString "store") (by decide +kernel) (by decide +kernel)]
          have : last.count (Str.ofString "load") + last.count (Str.ofString "store") ≤ 1 := by rcases hl with rfl | rfl | rfl <;> decide +kernel
          omega
      rcases hx with rfl | rfl | rfl | rfl
      · exact key [] (.inl rfl)
      · exact key [(("load" : String) : Str)] (.inr (.inl rfl))
      · exact key [(("store" : String) : Str)] (.inr (.inr rfl))
      · exact key [] (.inl rfl)
    rintro σ G3 ⟨ws, o3, rfl, hws, hx3, e3, ho3⟩
    have hwl := hws.len
    refine seq_cut (fun σ' G' => ∃ p, σ' = [some (.ref s), some M.d, some (.lst (ws.map .str)), some (.ref p), none, none, none, none] ∧ s ≠ p ∧ G p = none ∧ Ext s G G' ∧ G' s = some o3 ∧ G' p = some (.lst [])) ?_ (fun N1 hN1 => ?_)
    rotate_left
    · walk_at "go"
      rename_i p np
      have hsp := fr_ne e3 np
      exact hN1 _ _ ⟨p, rfl, hsp, hx3.nn hsp.symm np, hx3.new np hsp, by rw [gup_ne hsp]; exact e3, gup_same⟩
    rintro σ G4 ⟨p, rfl, hsp, hp, hx4, e4, ep4⟩
    walk_at "go"
    refine for_lst D.str ws (fun k σ' G' => ∃ (os : List Ord) (x4 x5 : Option D) (o5 : GO), σ' = [some (.ref s), some M.d, some (.lst (ws.map .str)), some (.ref p), x4, x5, none, none] ∧ Ext s G G' ∧ G' s = some o5 ∧ BagO (n + 6 + 8 * k) o5 ∧ G' p = some (.lst (os.map Ord.d)) ∧ (∀ x ∈ os, x.ok M) ∧ (os.map Ord.kind).Sublist (ws.take k) ∧ (spots os).Nodup) ?turn ?fin _ _ ⟨[], none, none, o3, rfl, hx4, e4, ho3.mono (by omega), ep4, fun _ h => (by cases h), by simp, by simp [spots]⟩
    case fin =>
      rintro σ' G' ⟨os, x4, x5, o5, rfl, hx5, e5, ho5, ep5, hos, hsub, hnd⟩
      rw [List.take_length] at hsub
      obtain ⟨hmay, hlen⟩ := may_of hws hsub hnd
      have osm : ∀ o ∈ os, o.small := fun x hx => Ord.ok.small hM (hos x hx)
      walk_at "go"
      refine sortK_go (lstOf_r ep5) (fun o R h k => go_key h k) osm ?_
      walk_at "w"
      exact rt_ext hx5 e5 (h os o5 hos hlen hmay (ho5.mono (by omega)))
    case turn =>
      rintro k w σ' G' hw ⟨os, x4, x5, o5, rfl, hx5, e5, ho5, ep5, hos, hsub, hnd⟩ N hN
      have hkl := (List.getElem?_eq_some_iff.mp hw).1
      have hl5 : os.length ≤ 7 := by have := hsub.length_le; rw [List.length_map, List.length_take] at this; omega
      have htk : ws.take (k + 1) = ws.take k ++ [w] := by rw [List.take_succ, hw]; rfl
      walk_at "go"
      refine go_order hM (hws.k5 w (List.mem_of_getElem? hw)) e5 ho5 (by omega) fun x o6 hx hxk ho6 => ?_
      have ep6 : gup G' s o6 p = some (.lst (os.map Ord.d)) := by rw [gup_ne hsp.symm]; exact ep5
      have hskip : N [some (.ref s), some M.d, some (.lst (ws.map .str)), some (.ref p), some (.str w), some x.d, none, none] (gup G' s o6) := hN _ _ ⟨os, _, _, o6, rfl, hx5.self, gup_same, ho6.mono (by omega), ep6, hos, by rw [htk]; exact hsub.trans (List.sublist_append_left _ _), hnd⟩
      have hput : (spots (os ++ [x])).Nodup → N [some (.ref s), some M.d, some (.lst (ws.map .str)), some (.ref p), some (.str w), some x.d, none, none] (gup (gup G' s o6) p (.lst (os.map Ord.d ++ [x.d]))) := fun hnd2 => hN _ _ ⟨os ++ [x], _, _, o6, rfl, (hx5.self).put hp, by rw [gup_ne hsp, gup_same], ho6.mono (by omega), by rw [gup_same, List.map_append]; rfl, fun z hz => (by
          rcases List.mem_append.mp hz with hz | hz
          · exact hos z hz
          · rw [List.mem_singleton] at hz; rw [hz]; exact hx), by rw [List.map_append, htk]; exact hsub.append (by rw [List.map_cons, hxk]; exact List.Sublist.refl _), hnd2⟩
      walk_at "go"
      cases hd : x.dst with
      | none =>
        have e1 : dstD x = .non := by unfold dstD; rw [hd]
        rw [e1]
        walk_at "go"
        refine ⟨mty_at ep6, ?_⟩
        rw [atL_at ep6]
        refine ⟨by rw [sizeLine_eq, List.length_map]; omega, ?_⟩
        refine hput ?_
        rw [spots_app, show spots [x] = x.to ++ [] from rfl, to_none hd]
        simpa using hnd
      | some q =>
        obtain ⟨et, edd⟩ := to_some hd
        rw [edd]
        have hnn : DL.isNon q.d = false := by cases q <;> rfl
        rw [hnn]
        walk_at "go"
        rw [ep6, atL_lst]
        refine ⟨small_line (by rw [List.length_map]; omega), ?_⟩
        refine lc_typ Ord.d dstD ep6 os [] (fun o ho Q k => by walk_at "go"; exact k) _ ?_
        rw [List.nil_append, edd]
        refine inE_L (by cases q <;> exact fun z e => (by cases e)) (plc_py hM (dst_ok hd hx)) (dsts_py hM hos) (by have := q.ky.2; omega) ?_
        rw [in_dsts]
        by_cases hq : q ∈ spots os
        · rw [decide_eq_true hq]
          walk_at "go"
          exact hskip
        · rw [decide_eq_false hq]
          walk_at "go"
          refine ⟨mty_at ep6, ?_⟩
          rw [atL_at ep6]
          refine ⟨by rw [sizeLine_eq, List.length_map]; omega, ?_⟩
          refine hput ?_
          rw [spots_app, show spots [x] = x.to ++ [] from rfl, et, List.append_nil]
          exact List.nodup_append.mpr ⟨hnd, by simp, fun a ha b hb e => by rw [List.mem_singleton] at hb; subst hb; subst e; exact hq ha⟩
theorem go_orders {s : Addr} {M : Mach} {G : Gp} {R : DK} {o : GO} {n : Nat} (hM : M.ok) (e : G s = some o) (h : BagO n o) (hn : n ≤ 850000) (k : ∀ (os : List Ord) o', (∀ x ∈ os, x.ok M) → os.length ≤ 7 → mayO M os = true → BagO (n + 70) o' → R (.tup ((sortO os).map Ord.d)) (gup G s o')) : sp__law_orders [.ref s, M.d] G R := ⟨s, M, n, o, rfl, hM, e, h, hn, k⟩
end K52


set_option Elab.async false
set_option linter.all false
set_option maxRecDepth 100000
set_option maxHeartbeats 4000000
set_option autoImplicit false
namespace K52
open PySem PySem.Spec PyProof.Rows L2 DL
local macro_rules | `(tactic| walk_at "d") => `(tactic| dsimp only [dSeq, dNext, dIfS, dRet, dRetN, dAsg, dName, dVar, dC, dOp, dUn, dChain, dB, dAnd, dOr, dNot, dAndV, dOrV, dNotV, dIf, dNil, dCons, dTup, dLst, newL, dCallB, dCall, dCallK, dDrop, dAug, dAugS, dSub, dM, dM0, dSlice, dNoPart, dPart, dLc, dYes, dFor, dIter, dRng1, dEnum, dZipM, srcD, dStar, dInK, dIxK, dLenSet, dRev,
  startD, wipeD, setAll, dNames, List.map_cons, List.map_nil, List.length_cons, List.length_nil, List.replicate, List.cons_append, List.nil_append, List.append_nil, List.getElem?_cons_zero, List.getElem?_cons_succ, List.set_cons_zero, List.set_cons_succ, List.map, Nat.zero_add, Nat.reduceAdd, Nat.reduceSub, Nat.sub_self, Nat.succ_sub_succ_eq_sub])
local macro_rules | `(tactic| walk_at "o") => `(tactic| simp only [dAdd_ii, dAdd_ss, dAdd_tt, dAdd_ll, dMinus_ii, dMul_ii, dMod_ii, dFdiv_ii, dPow_ii, dShl_ii, dNeg_i, dIadd_ii, dLt_ii, dLe_ii, dGt_ii, dGe_ii, dEq_ii, dNe_ii, dEq_ss, dNe_ss, dEq_bb, dNe_bb, dIs_n, dIsNot_n, dMax2_ii, dMin2_ii, dTuple_t, dTuple_l, dList_t, dList_l, dIx_t, dIx_l, dIx_s, dSl_t, dSl_l, dSl_s, newL_f, len_tup, len_lst])
local macro_rules | `(tactic| walk_at "w") => `(tactic| dsimp only [x_var, x_c, x_op, x_un, x_b, x_and, x_or, x_not, x_chain, x_andV, x_orV, x_notV, x_if, x_nil, x_cons, x_tup, x_lst0, x_lst1, x_callB, x_call, x_callK, x_next, x_seq, x_break, x_cont, x_drop, x_ret, x_ifS, x_asg, x_name, x_names, x_sub, x_aug, x_augS, x_for, x_lc0, x_lc1, x_yes, x_noPart, x_part, x_slice, x_iter, it_t, it_l, it_n, it_s, it_r, x_rng1, x_enum, x_rev, x_m, x_m0, x_mX, x_zip, x_star_t, x_star_l, x_lenSet, x_forgo0, x_lcgo0, x_while, x_par, x_sortK,
  br_t, br_f, isB_bl, isI_int, isN_some, slo_some, atL_lst, ix_t, ix_l, ix_n,
  dAdd_ii, dAdd_ss, dAdd_tt, dAdd_ll, dMinus_ii, dMul_ii, dMod_ii, dFdiv_ii, dPow_ii, dShl_ii, dNeg_i, dIadd_ii, dLt_ii, dLe_ii, dGt_ii, dGe_ii, ltE_ii, ltE_ss, srcD, isi_i, isi_s, isi_b, isi_n, isi_t, isi_nt, isi_l, isi2_i, isi2_s, isi2_b, isi2_n, isi2_t, isi2_nt, isi2_l, inon_n, inon_i, inon_s, inon_b, inon_t, inon_l, inon_r, dEq_ii, dNe_ii, dEq_ss, dNe_ss, dEq_bb, dNe_bb, dIs_n, dIsNot_n, dMax2_ii, dMin2_ii, dTuple_t, dTuple_l, dList_t, dList_l, dSl_t, dSl_l, dSl_s, newL_f, newL_t, app_r, int_b, int_i, strI_i, strX_i, strX_s,
  startD, wipeD, setAll, permL, List.filterMap, List.map_cons, List.map_nil, List.length_cons, List.length_nil, List.replicate, List.cons_append, List.nil_append, List.append_nil, List.getElem?_cons_zero, List.getElem?_cons_succ, List.set_cons_zero, List.set_cons_succ, List.map, Nat.zero_add, Nat.reduceAdd, Nat.reduceSub, Nat.sub_self, Nat.succ_sub_succ_eq_sub])
local macro_rules | `(tactic| walk_at "v") => `(tactic| simp only [ofString_inj, String.reduceEq, at_0, at_1, at_2, at_3, at_4, at_5, isN_some, isBB_bl, isB_bl, br_t, br_f, br_not, br_and, br_or, br_dec, ix_r, len_tup, len_lst, len_nt, ltE_key, gup_gup, gup_same, starD_one, cut1, cut2, kt1, kt2, kt3, kt4, kt5, kt6, isTy, String.reduceBEq, Bool.or_false, Bool.false_or, Bool.true_or, Bool.or_true, Bool.and_false, Bool.false_and, Bool.true_and, Bool.and_true, Bool.not_true, Bool.not_false, decide_true, decide_false, eq_self_iff_true, Bool.false_eq_true, Int.reduceAdd, Int.add_zero, if_true, if_false, true_and, and_true])
local macro_rules | `(tactic| walk_at "side") => `(tactic| first | with_reducible assumption | omega | exact mty_up | exact True.intro | (simp only [List.mem_cons, ofString_inj, String.reduceEq, true_or, or_true, List.length_map]; done) | with_reducible exact (rfl : (_ : Nat) = _) | exact (rfl : (_ : Option String) = _) | (refine small_line ?_; omega) | (walk_at "ll"; first | omega | (refine small_line ?_; omega) | fail) | (exact log_small (by omega)) | fail)
local macro_rules | `(tactic| walk_at "x") => `(tactic| fail)
local macro_rules | `(tactic| walk_at "go") => `(tactic| repeat' (first | dsimp only [x_var, x_c, x_op, x_un, x_b, x_and, x_or, x_not, x_chain, x_andV, x_orV, x_notV, x_if, x_nil, x_cons, x_tup, x_lst0, x_lst1, x_callB, x_call, x_callK, x_next, x_seq, x_break, x_cont, x_drop, x_ret, x_ifS, x_asg, x_name, x_names, x_sub, x_aug, x_augS, x_for, x_lc0, x_lc1, x_yes, x_noPart, x_part, x_slice, x_iter, it_t, it_l, it_n, it_s, it_r, x_rng1, x_enum, x_rev, x_m, x_m0, x_mX, x_zip, x_star_t, x_star_l, x_lenSet, x_forgo0, x_lcgo0, x_while, x_par, x_sortK, br_t, br_f, isB_bl, isI_int, isN_some, slo_some, atL_lst, ix_t, ix_l, ix_n, dAdd_ii, dAdd_ss, dAdd_tt, dAdd_ll, dMinus_ii, dMul_ii, dMod_ii, dFdiv_ii, dPow_ii, dShl_ii, dNeg_i, dIadd_ii, dLt_ii, dLe_ii, dGt_ii, dGe_ii, ltE_ii, ltE_ss, srcD, isi_i, isi_s, isi_b, isi_n, isi_t, isi_nt, isi_l, isi2_i, isi2_s, isi2_b, isi2_n, isi2_t, isi2_nt, isi2_l, inon_n, inon_i, inon_s, inon_b, inon_t, inon_l, inon_r, dEq_ii, dNe_ii, dEq_ss, dNe_ss, dEq_bb, dNe_bb, dIs_n, dIsNot_n, dMax2_ii, dMin2_ii, dTuple_t, dTuple_l, dList_t, dList_l, dSl_t, dSl_l, dSl_s, newL_f, newL_t, app_r, int_b, int_i, strI_i, strX_i, strX_s, startD, wipeD, setAll, permL, List.filterMap, List.map_cons, List.map_nil, List.length_cons, List.length_nil, List.replicate, List.cons_append, List.nil_append, List.append_nil, List.getElem?_cons_zero, List.getElem?_cons_succ, List.set_cons_zero, List.set_cons_succ, List.map, Nat.zero_add, Nat.reduceAdd, Nat.reduceSub, Nat.sub_self, Nat.succ_sub_succ_eq_sub] | simp only [ofString_inj, String.reduceEq, at_0, at_1, at_2, at_3, at_4, at_5, isN_some, isBB_bl, isB_bl, br_t, br_f, br_not, br_and, br_or, br_dec, ix_r, len_tup, len_lst, len_nt, ltE_key, gup_gup, gup_same, starD_one, cut1, cut2, kt1, kt2, kt3, kt4, kt5, kt6, isTy, String.reduceBEq, Bool.or_false, Bool.false_or, Bool.true_or, Bool.or_true, Bool.and_false, Bool.false_and, Bool.true_and, Bool.and_true, Bool.not_true, Bool.not_false, decide_true, decide_false, eq_self_iff_true, Bool.false_eq_true, Int.reduceAdd, Int.add_zero, if_true, if_false, true_and, and_true] | walk_at "x" | with_reducible refine kont_go ?_ | with_reducible refine rt_sub (by assumption) ?_ | with_reducible refine rt_lst (by assumption) ?_ | with_reducible refine rt_drop (by assumption) ?_ | with_reducible refine rt_keep (by assumption) (by assumption) ?_ | with_reducible refine rt_same ?_ | (refine fun (p : Addr) (_ : _ = none) => ?_) | refine join_gor gup_same rfl (by walk_at "side") ?_ | with_reducible refine lc_cons ?_ | with_reducible refine for_cons ?_ | refine join_go rfl (by walk_at "side") ?_ | refine And.intro (by first | with_reducible assumption | omega | exact mty_up | exact True.intro | (simp only [List.mem_cons, ofString_inj, String.reduceEq, true_or, or_true, List.length_map]; done) | with_reducible exact (rfl : (_ : Nat) = _) | exact (rfl : (_ : Option String) = _) | (refine small_line ?_; omega) | (walk_at "ll"; first | omega | (refine small_line ?_; omega) | fail) | (exact log_small (by omega)) | fail) ?_ | fail))
local macro_rules | `(tactic| walk_at "ll") => `(tactic| simp only [List.length_map, List.length_append, List.length_cons, List.length_nil, List.map_cons, List.map_nil, List.sum_cons, List.sum_nil, len_app, rng_length, ll_0, ll_1, ll_2, ll_3, ll_4, ll_5, ll_6, ll_7, ll_8, ll_9, ll_10, ll_11, ll_12, ll_13, ll_14, ll_15, ll_16, ll_17, ll_18, ll_19, ll_20, ll_21, ll_22, ll_23, ll_24, ll_25, ll_26, ll_27, ll_28, ll_29, ll_30, ll_31, ll_32, ll_33, ll_34, ll_35, ll_36, ll_37])
/-! ### programs -/
inductive Nx where
  | fin | go (n : Nat) | test (p : Plc) (i j : Nat)
deriving DecidableEq
def Nx.nexts : Nx → List Nat | .fin => [] | .go n => [n] | .test _ i j => [i, j]
def Nx.d : Nx → D
  | .fin => .tup [.str "end"] | .go n => .tup [.str "go", .int n] | .test p i j => .tup [.str "test", p.d, .int i, .int j]
structure Rw where
  os : List Ord
  nx : Nx
deriving DecidableEq
def Rw.d (r : Rw) : D := .tup [.tup (r.os.map Ord.d), r.nx.d]
def Nx.ok (M : Mach) (k many : Nat) : Nx → Prop
  | .fin => True | .go n => k < n ∧ n < many | .test p i j => p.ok M ∧ k < i ∧ i < many ∧ k < j ∧ j < many
/-- a row's orders as they are drawn: sorted, of those that a row may have -/
def RowOk (M : Mach) (os : List Ord) : Prop := ∃ l : List Ord, os = sortO l ∧ (∀ x ∈ l, x.ok M) ∧ l.length ≤ 7 ∧ mayO M l = true
structure ProgOk (M : Mach) (pr : List Rw) : Prop where
  rows : ∀ (k : Nat) (r : Rw), pr[k]? = some r → RowOk M r.os ∧ r.nx.ok M k pr.length
theorem sortO_perm (l : List Ord) : (sortO l).Perm l := by
  unfold sortO
  exact sortK_perm (by simp)
theorem RowOk.ok {M : Mach} {os : List Ord} (h : RowOk M os) : (∀ x ∈ os, x.ok M) ∧ os.length ≤ 7 := by
  obtain ⟨l, rfl, h1, h2, _⟩ := h
  have hp := sortO_perm l
  exact ⟨fun x hx => h1 x (hp.mem_iff.mp hx), by rw [hp.length_eq]; exact h2⟩
theorem snoc_get {α : Type} {l : List α} {a x : α} {j : Nat} (h : (l ++ [a])[j]? = some x) : l[j]? = some x ∨ (j = l.length ∧ x = a) := by
  by_cases hj : j < l.length
  · rw [List.getElem?_append_left hj] at h; exact .inl h
  · rw [List.getElem?_append_right (by omega)] at h
    have := (List.getElem?_eq_some_iff.mp h).1
    simp only [List.length_cons, List.length_nil] at this
    have e : j - l.length = 0 := by omega
    rw [e] at h
    cases h
    exact .inr ⟨by omega, rfl⟩
local macro_rules | `(tactic| walk_at "x") => `(tactic| first | refine go_draw (by first | exact gup_same | assumption | fail) (by assumption) (by omega) (by walk_at "side") (by walk_at "side") fun _ _ _ _ => ?_ | refine go_place (by assumption) (by first | exact gup_same | assumption | fail) (by assumption) (by omega) fun _ _ _ _ => ?_ | refine go_orders (by assumption) (by first | exact gup_same | assumption | fail) (by assumption) (by omega) fun _ _ _ _ _ _ => ?_ | fail)
-- _law_prog: not reached
/-! ### few: a small machine -/
def fewZ : List Str := ["a", "ab", "go", "end", "start", "h"]
theorem fewZ_ok : ∀ z ∈ fewZ, nameOk z = true := by decide +kernel
theorem fewZ_nd : fewZ.Nodup := by decide +kernel
def sp__law_few : DSp := fun ds G R => ∃ s n o, ds = [.ref s] ∧ G s = some o ∧ BagO n o ∧ n ≤ 800000 ∧ ∀ (M : Mach) o', M.ok → BagO (n + 10) o' → R M.d (gup G s o')
local macro_rules | `(tactic| walk_at "x") => `(tactic| first | refine go_draw (by first | exact gup_same | assumption | fail) (by assumption) (by omega) (by walk_at "side") (by walk_at "side") fun _ _ _ _ => ?_ | fail)
theorem ok__law_few {P : Program} {w : World} {K : PySem.W.Frag} {mg : Str → Option Value} {base : Heap} {a : Ad} (T : Tx w K mg a) : FnD P w K mg base 2 a.f__law_few a.fd__law_few ["bag"] sp__law_few := by
  refine fun_okD T.F__law_few sc__law_few (fun ds G R h => ?_) (fun cdv A outer s H hr => ⟨_, (qss_cons (qs_set (i := 1) sc__law_few.nd rfl (.inl rfl) (qe_slice false (qe_lst false (qa_cons qe_str (qa_cons qe_str (qa_cons qe_str (qa_cons qe_str (qa_cons qe_str (qa_cons qe_str qa_nil))))))) qo_none (qo_some (qe_op (od_add false) qe_int (qe_call (ok__law_draw T) (hr.mono (by omega)) rfl T.g__law_draw T.F__law_draw.kp T.b__law_draw (qa_cons (qv 0) (qa_cons qe_int qa_nil)))))))
      (qss_one (qs_ret (qe_tup (qa_cons (qe_op (od_add false) qe_int (qe_call (ok__law_draw T) (hr.mono (by omega)) rfl T.g__law_draw T.F__law_draw.kp T.b__law_draw (qa_cons (qv 0) (qa_cons qe_int qa_nil)))) (qa_cons (qe_callTy cd_tupleN rfl T.n_tuple (by decide +kernel) (qa_cons (qv 1) qa_nil)) (qa_cons (qe_call (ok__law_draw T) (hr.mono (by omega)) rfl T.g__law_draw T.F__law_draw.kp T.b__law_draw (qa_cons (qv 0) (qa_cons qe_int qa_nil))) (qa_cons (qe_op (od_add false) qe_int (qe_call (ok__law_draw T) (hr.mono (by omega)) rfl T.g__law_draw T.F__law_draw.kp T.b__law_draw (qa_cons (qv 0) (qa_cons qe_int qa_nil)))) (qa_cons (qe_op (od_add false) qe_int (qe_call (ok__law_draw T) (hr.mono (by omega)) rfl T.g__law_draw T.F__law_draw.kp T.b__law_draw (qa_cons (qv 0) (qa_cons qe_int qa_nil)))) (qa_cons qe_int qa_nil)))))))))), fun ds G R h => ?_⟩)
  · obtain ⟨s, n, o, rfl, _⟩ := h; rfl
  · obtain ⟨s, n, o, rfl, e, ho, hn, h⟩ := h
    refine seq_cut (fun σ' G' => ∃ (names : List Str) (o1 : GO), σ' = [some (.ref s), some (.lst (names.map .str))] ∧ G' = gup G s o1 ∧ BagO (n + 1) o1 ∧ NamesOk names ∧ 1 ≤ names.length ∧ names.length ≤ 6) ?_ (fun N1 hN1 => ?_)
    rotate_left
    · walk_at "go"
      rename_i r0 o1 hr0 ho1
      refine hN1 _ _ ⟨fewZ.take (1 + r0), o1, ?_, rfl, ho1, ⟨fun z hz => fewZ_ok z (List.mem_of_mem_take hz), fewZ_nd.sublist (List.take_sublist _ _)⟩, ?_, ?_⟩
      · rcases (show r0 = 0 ∨ r0 = 1 ∨ r0 = 2 ∨ r0 = 3 by omega) with rfl | rfl | rfl | rfl <;> rfl
      · rw [List.length_take, show fewZ.length = 6 from rfl]; omega
      · rw [List.length_take, show fewZ.length = 6 from rfl]; omega
    rintro σ G1 ⟨names, o1, rfl, rfl, ho1, hnm, hn1, hn2⟩
    walk_at "go"
    rw [tupleN_l]
    walk_at "go"
    rename_i r1 o2 hr1 ho2 r2 o3 hr2 ho3 r3 o4 hr3 ho4 r4 o5 hr4 ho5
    have h2 : (2 : Int) ≤ 2 ^ (1 + (r1 : Int)).toNat := by
      rcases (show r1 = 0 ∨ r1 = 1 by omega) with rfl | rfl <;> decide
    exact h ⟨1 + r1, names, r2, 1 + r3, 1 + r4, 2⟩ o5 ⟨by simp only; omega, by simp only; omega, hn1, hn2, hnm, by simp only; omega, by simp only; omega, by simp only; omega, by simp only; omega, by simp only; omega, by simp only; omega, by simp only; omega, by simp only; exact h2⟩ (ho5.mono (by omega))
theorem go_few {s : Addr} {G : Gp} {R : DK} {o : GO} {n : Nat} (e : G s = some o) (h : BagO n o) (hn : n ≤ 800000) (k : ∀ (M : Mach) o', M.ok → BagO (n + 10) o' → R M.d (gup G s o')) : sp__law_few [.ref s] G R := ⟨s, n, o, rfl, e, h, hn, k⟩
end K52


set_option Elab.async false
set_option linter.all false
set_option maxRecDepth 100000
set_option maxHeartbeats 4000000
set_option autoImplicit false
namespace K52
open PySem PySem.Spec PyProof.Rows L2 DL
local macro_rules | `(tactic| walk_at "d") => `(tactic| dsimp only [dSeq, dNext, dIfS, dRet, dRetN, dAsg, dName, dVar, dC, dOp, dUn, dChain, dB, dAnd, dOr, dNot, dAndV, dOrV, dNotV, dIf, dNil, dCons, dTup, dLst, newL, dCallB, dCall, dCallK, dDrop, dAug, dAugS, dSub, dM, dM0, dSlice, dNoPart, dPart, dLc, dYes, dFor, dIter, dRng1, dEnum, dZipM, srcD, dStar, dInK, dIxK, dLenSet, dRev,
  startD, wipeD, setAll, dNames, List.map_cons, List.map_nil, List.length_cons, List.length_nil, List.replicate, List.cons_append, List.nil_append, List.append_nil, List.getElem?_cons_zero, List.getElem?_cons_succ, List.set_cons_zero, List.set_cons_succ, List.map, Nat.zero_add, Nat.reduceAdd, Nat.reduceSub, Nat.sub_self, Nat.succ_sub_succ_eq_sub])
local macro_rules | `(tactic| walk_at "o") => `(tactic| simp only [dAdd_ii, dAdd_ss, dAdd_tt, dAdd_ll, dMinus_ii, dMul_ii, dMod_ii, dFdiv_ii, dPow_ii, dShl_ii, dNeg_i, dIadd_ii, dLt_ii, dLe_ii, dGt_ii, dGe_ii, dEq_ii, dNe_ii, dEq_ss, dNe_ss, dEq_bb, dNe_bb, dIs_n, dIsNot_n, dMax2_ii, dMin2_ii, dTuple_t, dTuple_l, dList_t, dList_l, dIx_t, dIx_l, dIx_s, dSl_t, dSl_l, dSl_s, newL_f, len_tup, len_lst])
local macro_rules | `(tactic| walk_at "w") => `(tactic| dsimp only [x_var, x_c, x_op, x_un, x_b, x_and, x_or, x_not, x_chain, x_andV, x_orV, x_notV, x_if, x_nil, x_cons, x_tup, x_lst0, x_lst1, x_callB, x_call, x_callK, x_next, x_seq, x_break, x_cont, x_drop, x_ret, x_ifS, x_asg, x_name, x_names, x_sub, x_aug, x_augS, x_for, x_lc0, x_lc1, x_yes, x_noPart, x_part, x_slice, x_iter, it_t, it_l, it_n, it_s, it_r, x_rng1, x_enum, x_rev, x_m, x_m0, x_mX, x_zip, x_star_t, x_star_l, x_lenSet, x_forgo0, x_lcgo0, x_while, x_par, x_sortK,
  br_t, br_f, isB_bl, isI_int, isN_some, slo_some, atL_lst, ix_t, ix_l, ix_n,
  dAdd_ii, dAdd_ss, dAdd_tt, dAdd_ll, dMinus_ii, dMul_ii, dMod_ii, dFdiv_ii, dPow_ii, dShl_ii, dNeg_i, dIadd_ii, dLt_ii, dLe_ii, dGt_ii, dGe_ii, ltE_ii, ltE_ss, srcD, isi_i, isi_s, isi_b, isi_n, isi_t, isi_nt, isi_l, isi2_i, isi2_s, isi2_b, isi2_n, isi2_t, isi2_nt, isi2_l, inon_n, inon_i, inon_s, inon_b, inon_t, inon_l, inon_r, dEq_ii, dNe_ii, dEq_ss, dNe_ss, dEq_bb, dNe_bb, dIs_n, dIsNot_n, dMax2_ii, dMin2_ii, dTuple_t, dTuple_l, dList_t, dList_l, dSl_t, dSl_l, dSl_s, newL_f, newL_t, app_r, int_b, int_i, strI_i, strX_i, strX_s,
  startD, wipeD, setAll, permL, List.filterMap, List.map_cons, List.map_nil, List.length_cons, List.length_nil, List.replicate, List.cons_append, List.nil_append, List.append_nil, List.getElem?_cons_zero, List.getElem?_cons_succ, List.set_cons_zero, List.set_cons_succ, List.map, Nat.zero_add, Nat.reduceAdd, Nat.reduceSub, Nat.sub_self, Nat.succ_sub_succ_eq_sub])
local macro_rules | `(tactic| walk_at "v") => `(tactic| simp only [ofString_inj, String.reduceEq, at_0, at_1, at_2, at_3, at_4, at_5, isN_some, isBB_bl, isB_bl, br_t, br_f, br_not, br_and, br_or, br_dec, ix_r, len_tup, len_lst, len_nt, ltE_key, gup_gup, gup_same, starD_one, cut1, cut2, kt1, kt2, kt3, kt4, kt5, kt6, isTy, String.reduceBEq, Bool.or_false, Bool.false_or, Bool.true_or, Bool.or_true, Bool.and_false, Bool.false_and, Bool.true_and, Bool.and_true, Bool.not_true, Bool.not_false, decide_true, decide_false, eq_self_iff_true, Bool.false_eq_true, Int.reduceAdd, Int.add_zero, if_true, if_false, true_and, and_true])
local macro_rules | `(tactic| walk_at "side") => `(tactic| first | with_reducible assumption | omega | exact mty_up | exact True.intro | (simp only [List.mem_cons, ofString_inj, String.reduceEq, true_or, or_true, List.length_map]; done) | with_reducible exact (rfl : (_ : Nat) = _) | exact (rfl : (_ : Option String) = _) | (refine small_line ?_; omega) | (walk_at "ll"; first | omega | (refine small_line ?_; omega) | fail) | (exact log_small (by omega)) | fail)
local macro_rules | `(tactic| walk_at "x") => `(tactic| fail)
local macro_rules | `(tactic| walk_at "go") => `(tactic| repeat' (first | dsimp only [x_var, x_c, x_op, x_un, x_b, x_and, x_or, x_not, x_chain, x_andV, x_orV, x_notV, x_if, x_nil, x_cons, x_tup, x_lst0, x_lst1, x_callB, x_call, x_callK, x_next, x_seq, x_break, x_cont, x_drop, x_ret, x_ifS, x_asg, x_name, x_names, x_sub, x_aug, x_augS, x_for, x_lc0, x_lc1, x_yes, x_noPart, x_part, x_slice, x_iter, it_t, it_l, it_n, it_s, it_r, x_rng1, x_enum, x_rev, x_m, x_m0, x_mX, x_zip, x_star_t, x_star_l, x_lenSet, x_forgo0, x_lcgo0, x_while, x_par, x_sortK, br_t, br_f, isB_bl, isI_int, isN_some, slo_some, atL_lst, ix_t, ix_l, ix_n, dAdd_ii, dAdd_ss, dAdd_tt, dAdd_ll, dMinus_ii, dMul_ii, dMod_ii, dFdiv_ii, dPow_ii, dShl_ii, dNeg_i, dIadd_ii, dLt_ii, dLe_ii, dGt_ii, dGe_ii, ltE_ii, ltE_ss, srcD, isi_i, isi_s, isi_b, isi_n, isi_t, isi_nt, isi_l, isi2_i, isi2_s, isi2_b, isi2_n, isi2_t, isi2_nt, isi2_l, inon_n, inon_i, inon_s, inon_b, inon_t, inon_l, inon_r, dEq_ii, dNe_ii, dEq_ss, dNe_ss, dEq_bb, dNe_bb, dIs_n, dIsNot_n, dMax2_ii, dMin2_ii, dTuple_t, dTuple_l, dList_t, dList_l, dSl_t, dSl_l, dSl_s, newL_f, newL_t, app_r, int_b, int_i, strI_i, strX_i, strX_s, startD, wipeD, setAll, permL, List.filterMap, List.map_cons, List.map_nil, List.length_cons, List.length_nil, List.replicate, List.cons_append, List.nil_append, List.append_nil, List.getElem?_cons_zero, List.getElem?_cons_succ, List.set_cons_zero, List.set_cons_succ, List.map, Nat.zero_add, Nat.reduceAdd, Nat.reduceSub, Nat.sub_self, Nat.succ_sub_succ_eq_sub] | simp only [ofString_inj, String.reduceEq, at_0, at_1, at_2, at_3, at_4, at_5, isN_some, isBB_bl, isB_bl, br_t, br_f, br_not, br_and, br_or, br_dec, ix_r, len_tup, len_lst, len_nt, ltE_key, gup_gup, gup_same, starD_one, cut1, cut2, kt1, kt2, kt3, kt4, kt5, kt6, isTy, String.reduceBEq, Bool.or_false, Bool.false_or, Bool.true_or, Bool.or_true, Bool.and_false, Bool.false_and, Bool.true_and, Bool.and_true, Bool.not_true, Bool.not_false, decide_true, decide_false, eq_self_iff_true, Bool.false_eq_true, Int.reduceAdd, Int.add_zero, if_true, if_false, true_and, and_true] | walk_at "x" | with_reducible refine kont_go ?_ | with_reducible refine rt_sub (by assumption) ?_ | with_reducible refine rt_lst (by assumption) ?_ | with_reducible refine rt_drop (by assumption) ?_ | with_reducible refine rt_keep (by assumption) (by assumption) ?_ | with_reducible refine rt_same ?_ | (refine fun (p : Addr) (_ : _ = none) => ?_) | refine join_gor gup_same rfl (by walk_at "side") ?_ | with_reducible refine lc_cons ?_ | with_reducible refine for_cons ?_ | refine join_go rfl (by walk_at "side") ?_ | refine And.intro (by first | with_reducible assumption | omega | exact mty_up | exact True.intro | (simp only [List.mem_cons, ofString_inj, String.reduceEq, true_or, or_true, List.length_map]; done) | with_reducible exact (rfl : (_ : Nat) = _) | exact (rfl : (_ : Option String) = _) | (refine small_line ?_; omega) | (walk_at "ll"; first | omega | (refine small_line ?_; omega) | fail) | (exact log_small (by omega)) | fail) ?_ | fail))
local macro_rules | `(tactic| walk_at "ll") => `(tactic| simp only [List.length_map, List.length_append, List.length_cons, List.length_nil, List.map_cons, List.map_nil, List.sum_cons, List.sum_nil, len_app, rng_length, ll_0, ll_1, ll_2, ll_3, ll_4, ll_5, ll_6, ll_7, ll_8, ll_9, ll_10, ll_11, ll_12, ll_13, ll_14, ll_15, ll_16, ll_17, ll_18, ll_19, ll_20, ll_21, ll_22, ll_23, ll_24, ll_25, ll_26, ll_27, ll_28, ll_29, ll_30, ll_31, ll_32, ll_33, ll_34, ll_35, ll_36, ll_37])
/-- what a pool of orders holds -/
def osD (os : List Ord) : D := .tup (os.map Ord.d)
def sp__law_chain : DSp := fun ds G R => ∃ s M n o many pool, ds = [.ref s, Mach.d M, .int (many : Nat), .lst (List.map osD pool)] ∧ M.ok ∧ many ≤ 310 ∧ 0 < pool.length ∧ pool.length ≤ 100 ∧ (∀ os ∈ pool, RowOk M os) ∧ G s = some o ∧ BagO n o ∧ n ≤ 700000 ∧ ∀ (pr : List Rw) o', ProgOk M pr → pr.length = many → BagO (n + 80 * many) o' → R (.tup (pr.map Rw.d)) (gup G s o')
local macro_rules | `(tactic| walk_at "x") => `(tactic| first | refine go_draw (by first | exact gup_same | assumption | fail) (by assumption) (by omega) (by walk_at "side") (by walk_at "side") fun _ _ _ _ => ?_ | refine go_place (by assumption) (by first | exact gup_same | assumption | fail) (by assumption) (by omega) fun _ _ _ _ => ?_ | fail)
theorem ok__law_chain {P : Program} {w : World} {K : PySem.W.Frag} {mg : Str → Option Value} {base : Heap} {a : Ad} (T : Tx w K mg a) : FnD P w K mg base 3 a.f__law_chain a.fd__law_chain ["bag", "kit", "many", "pool"] sp__law_chain := by
  refine fun_okD T.F__law_chain sc__law_chain (fun ds G R h => ?_) (fun cdv A outer s H hr => ⟨_, (qss_cons (qs_set (i := 4) sc__law_chain.nd rfl (.inl rfl) (qe_lst true qa_nil))
      (qss_cons (qs_for PassesOwn.never rfl (qi_range1 rfl T.n_range (qa_cons (qv 2) qa_nil)) (qg_of (pg_name (i := 5) sc__law_chain.nd rfl (.inr rfl)) (tg_name (i := 5) (ws := [5]) (by decide)))
      (qss_cons (qs_set (i := 6) sc__law_chain.nd rfl (.inr rfl) (qe_op od_sub (qe_op od_sub (qv 2) qe_int) (qv 5)))
      (qss_cons (qs_set (i := 7) sc__law_chain.nd rfl (.inl rfl) (qe_call (ok__law_draw T) (hr.mono (by omega)) rfl T.g__law_draw T.F__law_draw.kp T.b__law_draw (qa_cons (qv 0) (qa_cons qe_int qa_nil))))
      (qss_cons (qs_setLc false (i := 8) rfl sc__law_chain.nd rfl rfl (sw_true rfl rfl rfl (by decide +kernel)) (qi_range1 rfl T.n_range (qa_cons qe_int qa_nil)) (blkOk_by (own := [("j", 10)]) (N := N__law_chain) (sc := defScope s__law_chain) (by decide +kernel)) (fun _ _ _ _ _ => (pg_name (i := 10) sc__law_chain.nd rfl (.inl rfl))) (tg_name (i := 10) (by decide)) (fun _ _ _ _ _ => qts_nil) (fun _ _ _ _ _ => (qe_op (od_add false) (qe_op (od_add false) (qv 5) qe_int) (qe_call (ok__law_draw T) (hr.mono (by omega)) rfl T.g__law_draw T.F__law_draw.kp T.b__law_draw (qa_cons (qv 0) (qa_cons (qe_ix xd_ix (qe_lst false (qa_cons qe_int (qa_cons qe_int (qa_cons (qe_callB (cd_max2 rfl) rfl T.n_max (by decide +kernel) (qa_cons qe_int (qa_cons (qv 6) qa_nil))) qa_nil)))) (qe_call (ok__law_draw T) (hr.mono (by omega)) rfl T.g__law_draw T.F__law_draw.kp T.b__law_draw (qa_cons (qv 0) (qa_cons qe_int qa_nil))) (fun _ _ => rfl)) qa_nil))))))
      (qss_cons (qs_set (i := 9) sc__law_chain.nd rfl (.inl rfl) (qe_tup (qa_cons qe_str qa_nil)))
      (qss_cons (qs_if (QW.pt (qw_and (qt_cmp od_gt (qv 6) qe_int (nomark _)) (qw_and1 (qt_cmp od_gt (qv 7) qe_int (nomark _)))))
      (qss_one (qs_set (i := 9) sc__law_chain.nd rfl (.inl rfl) (qe_ix xd_ix (qe_lst false (qa_cons (qe_tup (qa_cons qe_str (qa_cons (qe_ix xd_ix (qv 8) qe_int (fun _ _ => rfl)) qa_nil))) (qa_cons (qe_tup (qa_cons qe_str (qa_cons (qe_call (ok__law_place T) (hr.mono (by omega)) rfl T.g__law_place T.F__law_place.kp T.b__law_place (qa_cons (qv 0) (qa_cons (qv 1) qa_nil))) (qa_cons (qe_ix xd_ix (qv 8) qe_int (fun _ _ => rfl)) (qa_cons (qe_ix xd_ix (qv 8) qe_int (fun _ _ => rfl)) qa_nil))))) qa_nil))) (qe_callTy cd_int rfl T.n_int (by decide +kernel) (qa_cons (qe_cmp od_gt (qv 7) qe_int (nomark _)) qa_nil)) (fun _ _ => rfl))))
      qss_nil)
      (qss_one (qs_expr (qe_m PySem.F.plainAttrs_list PySem.F.slot_list_append PySem.F.type_list_append md_append (qv 4) (qa_cons (qe_tup (qa_cons (qe_ix xd_ix (qv 3) (qe_call (ok__law_draw T) (hr.mono (by omega)) rfl T.g__law_draw T.F__law_draw.kp T.b__law_draw (qa_cons (qv 0) (qa_cons (qe_callB cd_len rfl T.n_len (by decide +kernel) (qa_cons (qv 3) qa_nil)) qa_nil))) (fun _ _ => rfl)) (qa_cons (qv 9) qa_nil))) qa_nil))))))))))
      (qss_one (qs_ret (qe_callTy cd_tuple rfl T.n_tuple (by decide +kernel) (qa_cons (qv 4) qa_nil)))))), fun ds G R h => ?_⟩)
  · obtain ⟨s, M, n, o, many, pool, rfl, _⟩ := h; rfl
  · obtain ⟨s, M, n, o, many, pool, rfl, hM, hmany, hp1, hp2, hpool, e, ho, hn, h⟩ := h
    have pk : ∀ (r : Nat) (k : D → Prop), (r : Int) < (pool.length : Int) → (∀ os, os ∈ pool → k (osD os)) → isN (atI (pool.map osD) (r : Int)) k := fun r k hr hk => pick (by rw [List.length_map]; omega) fun x hx => by
      obtain ⟨z, hz, rfl⟩ := List.mem_map.mp hx
      exact hk z hz
    refine seq_cut (fun σ' G' => ∃ p, σ' = [some (.ref s), some M.d, some (.int (many : Nat)), some (.lst (pool.map osD)), some (.ref p), none, none, none, none, none, none] ∧ s ≠ p ∧ G p = none ∧ G' = gup G p (.lst [])) ?_ (fun N1 hN1 => ?_)
    rotate_left
    · walk_at "go"
      rename_i p np
      exact hN1 _ _ ⟨p, rfl, fr_ne e np, np, rfl⟩
    rintro σ G1 ⟨p, rfl, hsp, hp, rfl⟩
    walk_at "go"
    rw [Int.toNat_natCast]
    refine for_rng many (fun k σ' G' => ∃ (rs : List Rw) (o5 : GO) (x4 x5 x6 x7 x8 : Option D), σ' = [some (.ref s), some M.d, some (.int (many : Nat)), some (.lst (pool.map osD)), some (.ref p), x4, x5, x6, x7, x8, none] ∧ G' s = some o5 ∧ Ext s G G' ∧ G' p = some (.lst (rs.map Rw.d)) ∧ BagO (n + 80 * k) o5 ∧ rs.length = k ∧ ∀ (j : Nat) (r : Rw), rs[j]? = some r → RowOk M r.os ∧ r.nx.ok M j many) ?turn ?fin _ _ ⟨[], o, none, none, none, none, none, rfl, by rw [gup_ne hsp]; exact e, (Ext.refl s G).put hp, gup_same, ho, rfl, fun j r hj => (by cases hj)⟩
    case fin =>
      rintro σ' G' ⟨rs, o5, x4, x5, x6, x7, x8, rfl, e5, hx5, ep5, ho5, hl, hrs⟩
      walk_at "go"
      rw [tuple_r ep5]
      have hpo : ProgOk M rs := ProgOk.mk (by rw [hl]; exact hrs)
      have := h rs o5 hpo hl ho5
      exact rt_ext hx5 e5 this
    case turn =>
      rintro k σ' G' hk ⟨rs, o5, x4, x5, x6, x7, x8, rfl, e5, hx5, ep5, ho5, hl, hrs⟩ N hN
      have hpk : ∀ r : Nat, r < 3 → ∃ m : Int, atI [D.int 1, D.int 1, D.int (if (many : Int) - 1 - (k : Int) > 1 then (many : Int) - 1 - (k : Int) else 1)] (r : Nat) = some (.int m) ∧ 1 ≤ m ∧ (m ≤ 1 ∨ m ≤ (many : Int) - 1 - (k : Int)) := by
        intro r hr
        rcases (show r = 0 ∨ r = 1 ∨ r = 2 by omega) with rfl | rfl | rfl
        · exact ⟨1, rfl, by omega, by omega⟩
        · exact ⟨1, rfl, by omega, by omega⟩
        · exact ⟨_, rfl, by split <;> omega, by split <;> omega⟩
      walk_at "go"
      rename_i way o6 hway ho6 ra o7 hra ho7
      obtain ⟨m1, em1, hm1, hm1'⟩ := hpk ra (by omega)
      rw [em1]
      walk_at "go"
      rename_i rb o8 hrb ho8 rc o9 hrc ho9
      obtain ⟨m2, em2, hm2, hm2'⟩ := hpk rc (by omega)
      rw [em2]
      walk_at "go"
      rename_i rd oa hrd hoa
      split
      · rename_i hleft
        split
        · rename_i hw0
          walk_at "go"
          rename_i pl ob hpl hob
          by_cases hw3 : (3 : Int) < (way : Int)
          · simp only [hw3, decide_true, if_true]
            walk_at "go"
            refine ⟨mty_at (by rw [gup_ne hsp.symm]; exact ep5), ?_⟩
            walk_at "go"
            rename_i rz oc hrz hoc
            rw [List.length_map] at hrz
            refine pk rz _ hrz fun os hos => ?_
            walk_at "go"
            have epc : gup (G') s oc p = some (.lst (rs.map Rw.d)) := by rw [gup_ne hsp.symm]; exact ep5
            rw [atL_at epc]
            refine ⟨by rw [sizeLine_eq, List.length_map]; omega, ?_⟩
            refine hN _ _ ⟨rs ++ [⟨os, .test pl (k + 1 + rb) (k + 1 + rd)⟩], oc, _, _, _, _, _, rfl, by rw [gup_ne hsp]; exact gup_same, (hx5.self).put hp, by rw [gup_same, List.map_append]; rfl, hoc.mono (by omega), by rw [List.length_append, hl]; rfl, fun j r hj => ?_⟩
            rcases snoc_get hj with hj | ⟨rfl, rfl⟩
            · exact hrs j r hj
            · exact ⟨hpool os hos, ⟨hpl, by omega, by omega, by omega, by omega⟩⟩
          · simp only [hw3, decide_false, Bool.false_eq_true, if_false]
            walk_at "go"
            refine ⟨mty_at (by rw [gup_ne hsp.symm]; exact ep5), ?_⟩
            walk_at "go"
            rename_i rz oc hrz hoc
            rw [List.length_map] at hrz
            refine pk rz _ hrz fun os hos => ?_
            walk_at "go"
            have epc : gup (G') s oc p = some (.lst (rs.map Rw.d)) := by rw [gup_ne hsp.symm]; exact ep5
            rw [atL_at epc]
            refine ⟨by rw [sizeLine_eq, List.length_map]; omega, ?_⟩
            refine hN _ _ ⟨rs ++ [⟨os, .go (k + 1 + rb)⟩], oc, _, _, _, _, _, rfl, by rw [gup_ne hsp]; exact gup_same, (hx5.self).put hp, by rw [gup_same, List.map_append]; rfl, hoc.mono (by omega), by rw [List.length_append, hl]; rfl, fun j r hj => ?_⟩
            rcases snoc_get hj with hj | ⟨rfl, rfl⟩
            · exact hrs j r hj
            · exact ⟨hpool os hos, ⟨by omega, by omega⟩⟩
        · rename_i hw0
          walk_at "go"
          refine ⟨mty_at (by rw [gup_ne hsp.symm]; exact ep5), ?_⟩
          walk_at "go"
          rename_i rz oc hrz hoc
          rw [List.length_map] at hrz
          refine pk rz _ hrz fun os hos => ?_
          walk_at "go"
          have epc : gup (G') s oc p = some (.lst (rs.map Rw.d)) := by rw [gup_ne hsp.symm]; exact ep5
          rw [atL_at epc]
          refine ⟨by rw [sizeLine_eq, List.length_map]; omega, ?_⟩
          refine hN _ _ ⟨rs ++ [⟨os, .fin⟩], oc, _, _, _, _, _, rfl, by rw [gup_ne hsp]; exact gup_same, (hx5.self).put hp, by rw [gup_same, List.map_append]; rfl, hoc.mono (by omega), by rw [List.length_append, hl]; rfl, fun j r hj => ?_⟩
          rcases snoc_get hj with hj | ⟨rfl, rfl⟩
          · exact hrs j r hj
          · exact ⟨hpool os hos, trivial⟩
      · rename_i hleft
        walk_at "go"
        refine ⟨mty_at (by rw [gup_ne hsp.symm]; exact ep5), ?_⟩
        walk_at "go"
        rename_i rz oc hrz hoc
        rw [List.length_map] at hrz
        refine pk rz _ hrz fun os hos => ?_
        walk_at "go"
        have epc : gup (G') s oc p = some (.lst (rs.map Rw.d)) := by rw [gup_ne hsp.symm]; exact ep5
        rw [atL_at epc]
        refine ⟨by rw [sizeLine_eq, List.length_map]; omega, ?_⟩
        refine hN _ _ ⟨rs ++ [⟨os, .fin⟩], oc, _, _, _, _, _, rfl, by rw [gup_ne hsp]; exact gup_same, (hx5.self).put hp, by rw [gup_same, List.map_append]; rfl, hoc.mono (by omega), by rw [List.length_append, hl]; rfl, fun j r hj => ?_⟩
        rcases snoc_get hj with hj | ⟨rfl, rfl⟩
        · exact hrs j r hj
        · exact ⟨hpool os hos, trivial⟩
theorem go_chain {s : Addr} {M : Mach} {G : Gp} {R : DK} {o : GO} {n many : Nat} {pool : List (List Ord)} (hM : M.ok) (hm : many ≤ 310) (h1 : 0 < pool.length) (h2 : pool.length ≤ 100) (h3 : ∀ os ∈ pool, RowOk M os) (e : G s = some o) (h : BagO n o) (hn : n ≤ 700000) (k : ∀ (pr : List Rw) o', ProgOk M pr → pr.length = many → BagO (n + 80 * many) o' → R (.tup (pr.map Rw.d)) (gup G s o')) : sp__law_chain [.ref s, M.d, .int (many : Nat), .lst (pool.map osD)] G R := ⟨s, M, n, o, many, pool, rfl, hM, hm, h1, h2, h3, e, h, hn, k⟩
end K52


set_option Elab.async false
set_option linter.all false
set_option maxRecDepth 100000
set_option maxHeartbeats 4000000
set_option autoImplicit false
namespace K52
open PySem PySem.Spec PyProof.Rows L2 DL
local macro_rules | `(tactic| walk_at "d") => `(tactic| dsimp only [dSeq, dNext, dIfS, dRet, dRetN, dAsg, dName, dVar, dC, dOp, dUn, dChain, dB, dAnd, dOr, dNot, dAndV, dOrV, dNotV, dIf, dNil, dCons, dTup, dLst, newL, dCallB, dCall, dCallK, dDrop, dAug, dAugS, dSub, dM, dM0, dSlice, dNoPart, dPart, dLc, dYes, dFor, dIter, dRng1, dEnum, dZipM, srcD, dStar, dInK, dIxK, dLenSet, dRev,
  startD, wipeD, setAll, dNames, List.map_cons, List.map_nil, List.length_cons, List.length_nil, List.replicate, List.cons_append, List.nil_append, List.append_nil, List.getElem?_cons_zero, List.getElem?_cons_succ, List.set_cons_zero, List.set_cons_succ, List.map, Nat.zero_add, Nat.reduceAdd, Nat.reduceSub, Nat.sub_self, Nat.succ_sub_succ_eq_sub])
local macro_rules | `(tactic| walk_at "o") => `(tactic| simp only [dAdd_ii, dAdd_ss, dAdd_tt, dAdd_ll, dMinus_ii, dMul_ii, dMod_ii, dFdiv_ii, dPow_ii, dShl_ii, dNeg_i, dIadd_ii, dLt_ii, dLe_ii, dGt_ii, dGe_ii, dEq_ii, dNe_ii, dEq_ss, dNe_ss, dEq_bb, dNe_bb, dIs_n, dIsNot_n, dMax2_ii, dMin2_ii, dTuple_t, dTuple_l, dList_t, dList_l, dIx_t, dIx_l, dIx_s, dSl_t, dSl_l, dSl_s, newL_f, len_tup, len_lst])
local macro_rules | `(tactic| walk_at "w") => `(tactic| dsimp only [x_var, x_c, x_op, x_un, x_b, x_and, x_or, x_not, x_chain, x_andV, x_orV, x_notV, x_if, x_nil, x_cons, x_tup, x_lst0, x_lst1, x_callB, x_call, x_callK, x_next, x_seq, x_break, x_cont, x_drop, x_ret, x_ifS, x_asg, x_name, x_names, x_sub, x_aug, x_augS, x_for, x_lc0, x_lc1, x_yes, x_noPart, x_part, x_slice, x_iter, it_t, it_l, it_n, it_s, it_r, x_rng1, x_enum, x_rev, x_m, x_m0, x_mX, x_zip, x_star_t, x_star_l, x_lenSet, x_forgo0, x_lcgo0, x_while, x_par, x_sortK,
  br_t, br_f, isB_bl, isI_int, isN_some, slo_some, atL_lst, ix_t, ix_l, ix_n,
  dAdd_ii, dAdd_ss, dAdd_tt, dAdd_ll, dMinus_ii, dMul_ii, dMod_ii, dFdiv_ii, dPow_ii, dShl_ii, dNeg_i, dIadd_ii, dLt_ii, dLe_ii, dGt_ii, dGe_ii, ltE_ii, ltE_ss, srcD, isi_i, isi_s, isi_b, isi_n, isi_t, isi_nt, isi_l, isi2_i, isi2_s, isi2_b, isi2_n, isi2_t, isi2_nt, isi2_l, inon_n, inon_i, inon_s, inon_b, inon_t, inon_l, inon_r, dEq_ii, dNe_ii, dEq_ss, dNe_ss, dEq_bb, dNe_bb, dIs_n, dIsNot_n, dMax2_ii, dMin2_ii, dTuple_t, dTuple_l, dList_t, dList_l, dSl_t, dSl_l, dSl_s, newL_f, newL_t, app_r, int_b, int_i, strI_i, strX_i, strX_s,
  startD, wipeD, setAll, permL, List.filterMap, List.map_cons, List.map_nil, List.length_cons, List.length_nil, List.replicate, List.cons_append, List.nil_append, List.append_nil, List.getElem?_cons_zero, List.getElem?_cons_succ, List.set_cons_zero, List.set_cons_succ, List.map, Nat.zero_add, Nat.reduceAdd, Nat.reduceSub, Nat.sub_self, Nat.succ_sub_succ_eq_sub])
local macro_rules | `(tactic| walk_at "v") => `(tactic| simp only [ofString_inj, String.reduceEq, at_0, at_1, at_2, at_3, at_4, at_5, isN_some, isBB_bl, isB_bl, br_t, br_f, br_not, br_and, br_or, br_dec, ix_r, len_tup, len_lst, len_nt, ltE_key, gup_gup, gup_same, starD_one, cut1, cut2, kt1, kt2, kt3, kt4, kt5, kt6, isTy, String.reduceBEq, Bool.or_false, Bool.false_or, Bool.true_or, Bool.or_true, Bool.and_false, Bool.false_and, Bool.true_and, Bool.and_true, Bool.not_true, Bool.not_false, decide_true, decide_false, eq_self_iff_true, Bool.false_eq_true, Int.reduceAdd, Int.add_zero, if_true, if_false, true_and, and_true])
local macro_rules | `(tactic| walk_at "side") => `(tactic| first | with_reducible assumption | omega | exact mty_up | exact True.intro | (simp only [List.mem_cons, ofString_inj, String.reduceEq, true_or, or_true, List.length_map]; done) | with_reducible exact (rfl : (_ : Nat) = _) | exact (rfl : (_ : Option String) = _) | (refine small_line ?_; omega) | (walk_at "ll"; first | omega | (refine small_line ?_; omega) | fail) | (exact log_small (by omega)) | fail)
local macro_rules | `(tactic| walk_at "x") => `(tactic| fail)
local macro_rules | `(tactic| walk_at "go") => `(tactic| repeat' (first | dsimp only [x_var, x_c, x_op, x_un, x_b, x_and, x_or, x_not, x_chain, x_andV, x_orV, x_notV, x_if, x_nil, x_cons, x_tup, x_lst0, x_lst1, x_callB, x_call, x_callK, x_next, x_seq, x_break, x_cont, x_drop, x_ret, x_ifS, x_asg, x_name, x_names, x_sub, x_aug, x_augS, x_for, x_lc0, x_lc1, x_yes, x_noPart, x_part, x_slice, x_iter, it_t, it_l, it_n, it_s, it_r, x_rng1, x_enum, x_rev, x_m, x_m0, x_mX, x_zip, x_star_t, x_star_l, x_lenSet, x_forgo0, x_lcgo0, x_while, x_par, x_sortK, br_t, br_f, isB_bl, isI_int, isN_some, slo_some, atL_lst, ix_t, ix_l, ix_n, dAdd_ii, dAdd_ss, dAdd_tt, dAdd_ll, dMinus_ii, dMul_ii, dMod_ii, dFdiv_ii, dPow_ii, dShl_ii, dNeg_i, dIadd_ii, dLt_ii, dLe_ii, dGt_ii, dGe_ii, ltE_ii, ltE_ss, srcD, isi_i, isi_s, isi_b, isi_n, isi_t, isi_nt, isi_l, isi2_i, isi2_s, isi2_b, isi2_n, isi2_t, isi2_nt, isi2_l, inon_n, inon_i, inon_s, inon_b, inon_t, inon_l, inon_r, dEq_ii, dNe_ii, dEq_ss, dNe_ss, dEq_bb, dNe_bb, dIs_n, dIsNot_n, dMax2_ii, dMin2_ii, dTuple_t, dTuple_l, dList_t, dList_l, dSl_t, dSl_l, dSl_s, newL_f, newL_t, app_r, int_b, int_i, strI_i, strX_i, strX_s, startD, wipeD, setAll, permL, List.filterMap, List.map_cons, List.map_nil, List.length_cons, List.length_nil, List.replicate, List.cons_append, List.nil_append, List.append_nil, List.getElem?_cons_zero, List.getElem?_cons_succ, List.set_cons_zero, List.set_cons_succ, List.map, Nat.zero_add, Nat.reduceAdd, Nat.reduceSub, Nat.sub_self, Nat.succ_sub_succ_eq_sub] | simp only [ofString_inj, String.reduceEq, at_0, at_1, at_2, at_3, at_4, at_5, isN_some, isBB_bl, isB_bl, br_t, br_f, br_not, br_and, br_or, br_dec, ix_r, len_tup, len_lst, len_nt, ltE_key, gup_gup, gup_same, starD_one, cut1, cut2, kt1, kt2, kt3, kt4, kt5, kt6, isTy, String.reduceBEq, Bool.or_false, Bool.false_or, Bool.true_or, Bool.or_true, Bool.and_false, Bool.false_and, Bool.true_and, Bool.and_true, Bool.not_true, Bool.not_false, decide_true, decide_false, eq_self_iff_true, Bool.false_eq_true, Int.reduceAdd, Int.add_zero, if_true, if_false, true_and, and_true] | walk_at "x" | with_reducible refine kont_go ?_ | with_reducible refine rt_sub (by assumption) ?_ | with_reducible refine rt_lst (by assumption) ?_ | with_reducible refine rt_drop (by assumption) ?_ | with_reducible refine rt_keep (by assumption) (by assumption) ?_ | with_reducible refine rt_same ?_ | (refine fun (p : Addr) (_ : _ = none) => ?_) | refine join_gor gup_same rfl (by walk_at "side") ?_ | with_reducible refine lc_cons ?_ | with_reducible refine for_cons ?_ | refine join_go rfl (by walk_at "side") ?_ | refine And.intro (by first | with_reducible assumption | omega | exact mty_up | exact True.intro | (simp only [List.mem_cons, ofString_inj, String.reduceEq, true_or, or_true, List.length_map]; done) | with_reducible exact (rfl : (_ : Nat) = _) | exact (rfl : (_ : Option String) = _) | (refine small_line ?_; omega) | (walk_at "ll"; first | omega | (refine small_line ?_; omega) | fail) | (exact log_small (by omega)) | fail) ?_ | fail))
local macro_rules | `(tactic| walk_at "ll") => `(tactic| simp only [List.length_map, List.length_append, List.length_cons, List.length_nil, List.map_cons, List.map_nil, List.sum_cons, List.sum_nil, len_app, rng_length, ll_0, ll_1, ll_2, ll_3, ll_4, ll_5, ll_6, ll_7, ll_8, ll_9, ll_10, ll_11, ll_12, ll_13, ll_14, ll_15, ll_16, ll_17, ll_18, ll_19, ll_20, ll_21, ll_22, ll_23, ll_24, ll_25, ll_26, ll_27, ll_28, ll_29, ll_30, ll_31, ll_32, ll_33, ll_34, ll_35, ll_36, ll_37])
/-! ### names of programs drawn -/
theorem inE_refS {f : Bool → Bool} {z : Str} {zs : List Str} {p : Addr} {G : Gp} {R : DK} (e : G p = some (.lst (zs.map .str))) (hz : pyD (.str z) = true) (hs : ∀ y ∈ zs, pyD (.str y) = true) (k : R (.bl (f (decide (z ∈ zs)))) G) : dInE f (.str z) (.ref p) G R := by
  have := inE_lstS (f := f) hz hs k
  unfold dInE at this ⊢
  simpa only [seqOf, lstOf, e] using this
def lettersZ : Str := "abcdefghijklmnopqrstuvwxyz"
theorem letters_at : ∀ r : Nat, r < 26 → atI lettersZ.cps.toList (r : Int) = some (97 + r) := by
  rw [show lettersZ.cps.toList = [97, 98, 99, 100, 101, 102, 103, 104, 105, 106, 107, 108, 109, 110, 111, 112, 113, 114, 115, 116, 117, 118, 119, 120, 121, 122] by decide +kernel]; decide
theorem low_at {r : Nat} (h : r < 26) : low (97 + r) = true := by
  simp only [low, Bool.and_eq_true, decide_eq_true_eq]; omega
theorem rt_extL {s p : Addr} {G G' : Gp} {o : GO} {ds : List D} {R : DK} (h : Ext s G G') (e : G' s = some o) (ep : G' p = some (.lst ds)) (hp : G p = none) (hsp : s ≠ p) (k : R (.lst ds) (gup G s o)) : Rt R (.ref p) G' := ret_lst ep (h.sub e) (by rw [gup_ne hsp.symm]; exact hp) k
theorem name_pyC {z : Str} (h : nameOk z = true) : pyD (.str z) = true := by
  rw [py_str]
  intro c hc
  have := (nameOk_iff.mp h).2 c hc
  simp only [low, Bool.and_eq_true, decide_eq_true_eq] at this
  omega
theorem names_pyC : ∀ {zs : List Str}, (∀ z ∈ zs, nameOk z = true) → pyDs (zs.map .str) = true
  | [], _ => rfl
  | z :: zs, h => by
    simp only [List.map_cons, pyDs, Bool.and_eq_true]
    exact ⟨name_pyC (h z List.mem_cons_self), names_pyC fun y hy => h y (List.mem_cons_of_mem _ hy)⟩
theorem dep_strs : ∀ zs : List Str, depDs (zs.map .str) ≤ 1
  | [] => by decide
  | z :: zs => by
    have := dep_strs zs
    simp only [List.map_cons, depDs, depD]
    omega
theorem join_one (cs : List Nat) : (cs.map fun c => (⟨#[c]⟩ : Str)).map (·.length) = cs.map fun _ => 1 := by
  rw [List.map_map]; rfl
theorem sum_one (cs : List Nat) : (cs.map fun _ => 1).sum = cs.length := by
  induction cs with
  | nil => rfl
  | cons c cs ih => rw [List.map_cons, List.sum_cons, ih, List.length_cons]; omega
theorem cds_one (cs : List Nat) : cds (Txt.join (Str.ofString "") (cs.map fun c => (⟨#[c]⟩ : Str))) = cs := by
  rw [cds_join0 (by decide +kernel)]
  induction cs with
  | nil => rfl
  | cons c cs ih =>
    simp only [List.map_cons, List.flatten_cons]
    rw [ih]; rfl
def sp__law_names : DSp := fun ds G R => ∃ s n o many, ds = [.ref s, .int (many : Nat)] ∧ 1 ≤ many ∧ many ≤ 10 ∧ G s = some o ∧ BagO n o ∧ n ≤ 800000 ∧ ∀ (names : List Str) o', names.length ≤ many → 0 < names.length → NamesOk names → BagO (n + 16 * many) o' → R (.lst (names.map .str)) (gup G s o')
local macro_rules | `(tactic| walk_at "x") => `(tactic| first | refine go_draw (by first | exact gup_same | assumption | fail) (by assumption) (by omega) (by walk_at "side") (by walk_at "side") fun _ _ _ _ => ?_ | fail)
theorem ok__law_names {P : Program} {w : World} {K : PySem.W.Frag} {mg : Str → Option Value} {base : Heap} {a : Ad} (T : Tx w K mg a) : FnD P w K mg base 2 a.f__law_names a.fd__law_names ["bag", "many"] sp__law_names := by
  refine fun_okD T.F__law_names sc__law_names (fun ds G R h => ?_) (fun cdv A outer s H hr => ⟨_, (qss_cons (qs_set (i := 2) sc__law_names.nd rfl (.inr rfl) qe_str)
      (qss_cons (qs_set (i := 3) sc__law_names.nd rfl (.inl rfl) (qe_lst true qa_nil))
      (qss_cons (qs_for PassesOwn.never rfl (qi_range1 rfl T.n_range (qa_cons (qv 1) qa_nil)) (qg_of (pg_name (i := 4) sc__law_names.nd rfl (.inl rfl)) (tg_name (i := 4) (ws := [4]) (by decide)))
      (qss_cons (qs_set (i := 5) sc__law_names.nd rfl (.inl rfl) (qe_ix xd_ix (qe_lst false (qa_cons qe_int (qa_cons qe_int (qa_cons qe_int (qa_cons (qe_op (od_add false) qe_int (qe_call (ok__law_draw T) (hr.mono (by omega)) rfl T.g__law_draw T.F__law_draw.kp T.b__law_draw (qa_cons (qv 0) (qa_cons qe_int qa_nil)))) qa_nil))))) (qe_call (ok__law_draw T) (hr.mono (by omega)) rfl T.g__law_draw T.F__law_draw.kp T.b__law_draw (qa_cons (qv 0) (qa_cons qe_int qa_nil))) (fun _ _ => rfl)))
      (qss_cons (qs_set (i := 6) sc__law_names.nd rfl (.inl rfl) (qe_m PySem.F.plainAttrs_str PySem.F.slot_str_join PySem.F.type_str_join md_join qe_str (qa_cons (qe_lc false rfl sc__law_names.nd (qi_range1 rfl T.n_range (qa_cons (qv 5) qa_nil)) (blkOk_by (own := [("j", 8)]) (N := N__law_names) (sc := defScope s__law_names) (by decide +kernel)) (fun _ _ _ _ _ => (pg_name (i := 8) sc__law_names.nd rfl (.inl rfl))) (tg_name (i := 8) (by decide)) (fun _ _ _ _ _ => qts_nil) (fun _ _ _ _ _ => (qe_ix xd_ix (qv 2) (qe_call (ok__law_draw T) (hr.mono (by omega)) rfl T.g__law_draw T.F__law_draw.kp T.b__law_draw (qa_cons (qv 0) (qa_cons qe_int qa_nil))) (fun _ _ => rfl)))) qa_nil)))
      (qss_cons (qs_set (i := 7) sc__law_names.nd rfl (.inl rfl) (qe_call (ok__law_draw T) (hr.mono (by omega)) rfl T.g__law_draw T.F__law_draw.kp T.b__law_draw (qa_cons (qv 0) (qa_cons qe_int qa_nil))))
      (qss_cons (qs_if (qt_cmp (od_eq hr.units) (qv 7) qe_int (nomark _))
      (qss_one (qs_set (i := 6) sc__law_names.nd rfl (.inl rfl) (qe_ix xd_ix (qe_lst false (qa_cons qe_str (qa_cons qe_str (qa_cons qe_str (qa_cons qe_str (qa_cons qe_str (qa_cons qe_str (qa_cons qe_str (qa_cons qe_str qa_nil))))))))) (qe_call (ok__law_draw T) (hr.mono (by omega)) rfl T.g__law_draw T.F__law_draw.kp T.b__law_draw (qa_cons (qv 0) (qa_cons qe_int qa_nil))) (fun _ _ => rfl))))
      qss_nil)
      (qss_cons (qs_if (QW.pt (qw_and (qt_cmp (od_eq hr.units) (qv 7) qe_int (nomark _)) (qw_and1 (qt_cmp (od_ne hr.units) (qv 3) (qe_lst false qa_nil) (nomark _)))))
      (qss_one (qs_set (i := 6) sc__law_names.nd rfl (.inl rfl) (qe_op (od_add false) (qe_slice false (qe_ix xd_ix (qv 3) (qe_un od_neg qe_int) (fun _ _ => rfl)) qo_none (qo_some qe_int)) (qe_ix xd_ix (qv 2) (qe_call (ok__law_draw T) (hr.mono (by omega)) rfl T.g__law_draw T.F__law_draw.kp T.b__law_draw (qa_cons (qv 0) (qa_cons qe_int qa_nil))) (fun _ _ => rfl)))))
      qss_nil)
      (qss_one (qs_if (qt_cmp (od_notInE (room100 hr)) (qv 6) (qv 3) rfl)
      (qss_one (qs_expr (qe_m PySem.F.plainAttrs_list PySem.F.slot_list_append PySem.F.type_list_append md_append (qv 3) (qa_cons (qv 6) qa_nil))))
      qss_nil))))))))
      (qss_one (qs_ret (qv 3)))))), fun ds G R h => ?_⟩)
  · obtain ⟨s, n, o, many, rfl, _⟩ := h; rfl
  · obtain ⟨s, n, o, many, rfl, hm1, hm2, e, ho, hn, h⟩ := h
    walk_at "go"
    rename_i p np
    have hsp : s ≠ p := fr_ne e np
    rw [Int.toNat_natCast]
    refine for_rng many (fun k σ' G' => ∃ (names : List Str) (o5 : GO) (x4 x5 x6 x7 x8 : Option D), σ' = [some (.ref s), some (.int (many : Nat)), some (.str lettersZ), some (.ref p), x4, x5, x6, x7, x8] ∧ G' s = some o5 ∧ Ext s G G' ∧ G' p = some (.lst (names.map .str)) ∧ BagO (n + 16 * k) o5 ∧ names.length ≤ k ∧ (0 < k → 0 < names.length) ∧ NamesOk names) ?turn ?fin _ _ ⟨[], o, _, _, _, _, _, rfl, by rw [gup_ne hsp]; exact e, (Ext.refl s G).new np hsp, gup_same, ho, by simp, by omega, ⟨fun z hz => (by cases hz), List.nodup_nil⟩⟩
    case fin =>
      rintro σ' G' ⟨names, o5, x4, x5, x6, x7, x8, rfl, e5, hx5, ep5, ho5, hl1, hl2, hnm⟩
      walk_at "w"
      exact rt_extL hx5 e5 ep5 np hsp (h names o5 hl1 (hl2 (by omega)) hnm ho5)
    case turn =>
      rintro k σ' G' hk ⟨names, o5, x4, x5, x6, x7, x8, rfl, e5, hx5, ep5, ho5, hl1, hl2, hnm⟩ N hN
      dsimp only [x_name, List.set_cons_zero, List.set_cons_succ]
      refine seq_cut (fun σ2 G2 => ∃ (size : Nat) (o6 : GO), σ2 = [some (.ref s), some (.int (many : Nat)), some (.str lettersZ), some (.ref p), some (.int (k : Nat)), some (.int (size : Nat)), x6, x7, x8] ∧ 1 ≤ size ∧ size ≤ 8 ∧ G2 = gup G' s o6 ∧ BagO (n + 16 * k + 2) o6) ?_ (fun N1 hN1 => ?_)
      rotate_left
      · walk_at "go"
        rename_i r1 o6 hr1 ho6 r2 o7 hr2 ho7
        refine pick (by walk_at "side") fun x hx => ?_
        obtain ⟨size, rfl, h1, h2⟩ : ∃ size : Nat, x = .int (size : Nat) ∧ 1 ≤ size ∧ size ≤ 8 := by
          simp only [List.mem_cons, List.not_mem_nil, or_false] at hx
          rcases hx with rfl | rfl | rfl | rfl
          · exact ⟨1, rfl, by omega, by omega⟩
          · exact ⟨2, rfl, by omega, by omega⟩
          · exact ⟨8, rfl, by omega, by omega⟩
          · exact ⟨1 + r1, by simp only [Int.natCast_add]; rfl, by omega, by omega⟩
        walk_at "go"
        exact hN1 _ _ ⟨size, o7, rfl, h1, h2, rfl, ho7⟩
      rintro σ2 G2 ⟨size, o6, rfl, hs1, hs2, rfl, ho6⟩
      refine seq_cut (fun σ2 G2 => ∃ (z : Str) (o7 : GO) (x8 : Option D), σ2 = [some (.ref s), some (.int (many : Nat)), some (.str lettersZ), some (.ref p), some (.int (k : Nat)), some (.int (size : Nat)), some (.str z), x7, x8] ∧ nameOk z = true ∧ G2 = gup G' s o7 ∧ BagO (n + 16 * k + 10) o7) ?_ (fun N1 hN1 => ?_)
      rotate_left
      · walk_at "go"
        rw [Int.toNat_natCast]
        refine lc_go (fun rest acc G3 => ∃ (cs : List Nat) (oc : GO), acc = (cs.map fun c => (⟨#[c]⟩ : Str)).map .str ∧ (∀ c ∈ cs, low c = true) ∧ cs.length + rest.length = size ∧ G3 = gup G' s oc ∧ BagO (n + 16 * k + 2 + cs.length) oc) ?turnL ?finL _ _ _ ⟨[], o6, rfl, fun _ h => (by cases h), by simp [rng_length], rfl, ho6⟩
        case finL =>
          rintro acc G3 ⟨cs, oc, rfl, hcs, hl, rfl, hoc⟩
          simp only [List.length_nil, Nat.add_zero] at hl
          refine ⟨True.intro, ?_⟩
          refine join_go (strsOf_map _) ?_ ?_
          · rw [join_one, sum_one, show (Str.ofString "").length = 0 by decide +kernel]; omega
          · exact hN1 _ _ ⟨_, oc, _, rfl, by rw [nameOk_iff, cds_one]; exact ⟨by omega, hcs⟩, rfl, hoc.mono (by omega)⟩
        case turnL =>
          rintro x rest acc G3 ⟨cs, oc, rfl, hcs, hl, rfl, hoc⟩
          simp only [List.length_cons] at hl
          refine ⟨True.intro, fun N2 hN2 => ?_⟩
          walk_at "go"
          rename_i r od hr hod
          rw [dIx_s, letters_at r (by omega)]
          refine ⟨by decide +kernel, ?_⟩
          refine hN2 _ _ ⟨cs ++ [97 + r], od, by simp, ?_, by simp only [List.length_append, List.length_cons, List.length_nil]; omega, rfl, hod.mono (by simp only [List.length_append, List.length_cons, List.length_nil]; omega)⟩
          intro c hc
          rcases List.mem_append.mp hc with hc | hc
          · exact hcs c hc
          · rw [List.mem_singleton] at hc; subst hc; exact low_at (by omega)
      rintro σ2 G2 ⟨z, o7, y8, rfl, hz, rfl, ho7⟩
      refine seq_cut (fun σ2 G2 => ∃ (way : Nat) (o8 : GO), σ2 = [some (.ref s), some (.int (many : Nat)), some (.str lettersZ), some (.ref p), some (.int (k : Nat)), some (.int (size : Nat)), some (.str z), some (.int (way : Nat)), y8] ∧ G2 = gup G' s o8 ∧ BagO (n + 16 * k + 11) o8) ?_ (fun N1 hN1 => ?_)
      rotate_left
      · walk_at "go"
        rename_i way o8 hway ho8
        exact hN1 _ _ ⟨way, o8, rfl, rfl, ho8⟩
      rintro σ2 G2 ⟨way, o8, rfl, rfl, ho8⟩
      refine seq_cut (fun σ2 G2 => ∃ (z : Str) (o9 : GO), σ2 = [some (.ref s), some (.int (many : Nat)), some (.str lettersZ), some (.ref p), some (.int (k : Nat)), some (.int (size : Nat)), some (.str z), some (.int (way : Nat)), y8] ∧ nameOk z = true ∧ G2 = gup G' s o9 ∧ BagO (n + 16 * k + 12) o9) ?_ (fun N1 hN1 => ?_)
      rotate_left
      · walk_at "go"
        split
        · walk_at "go"
          rename_i hw r o9 hr ho9
          refine pick (by walk_at "side") fun x hx => ?_
          obtain ⟨y, rfl, hy⟩ : ∃ y : Str, x = .str y ∧ nameOk y = true := by
            simp only [List.mem_cons, List.not_mem_nil, or_false] at hx
            rcases hx with rfl | rfl | rfl | rfl | rfl | rfl | rfl | rfl <;> exact ⟨_, rfl, by decide +kernel⟩
          walk_at "go"
          exact hN1 _ _ ⟨y, o9, rfl, hy, rfl, ho9⟩
        · walk_at "go"
          exact hN1 _ _ ⟨z, o8, rfl, hz, rfl, ho8.mono (by omega)⟩
      rintro σ2 G2 ⟨z, o9, rfl, hz, rfl, ho9⟩
      have ep9 : gup G' s o9 p = some (.lst (names.map .str)) := by rw [gup_ne hsp.symm]; exact ep5
      refine seq_cut (fun σ2 G2 => ∃ (z : Str) (oa : GO), σ2 = [some (.ref s), some (.int (many : Nat)), some (.str lettersZ), some (.ref p), some (.int (k : Nat)), some (.int (size : Nat)), some (.str z), some (.int (way : Nat)), y8] ∧ nameOk z = true ∧ G2 = gup G' s oa ∧ BagO (n + 16 * k + 13) oa) ?_ (fun N1 hN1 => ?_)
      rotate_left
      · walk_at "go"
        have hno : N1 [some (.ref s), some (.int (many : Nat)), some (.str lettersZ), some (.ref p), some (.int (k : Nat)), some (.int (size : Nat)), some (.str z), some (.int (way : Nat)), y8] (gup G' s o9) := hN1 _ _ ⟨z, o9, rfl, hz, rfl, ho9.mono (by omega)⟩
        split
        · refine ⟨by decide, ?_⟩
          refine ne_refE ep9 (names_pyC hnm.ok) (by have := dep_strs names; omega) ?_
          by_cases hne : names = []
          · rw [hne]
            walk_at "go"
            exact hno
          · rw [decide_eq_true (by simpa using hne)]
            walk_at "go"
            rw [ep9, atL_lst, atI_neg1 (x := D.str (names.getLast hne)) (by rw [List.getLast?_map, List.getLast?_eq_getLast hne]; rfl)]
            have hlok := nameOk_iff.mp (hnm.ok _ (List.getLast_mem hne))
            walk_at "go"
            refine ⟨by rw [← cds_len]; exact small_line (by omega), ?_⟩
            walk_at "go"
            rename_i r oa hr hoa
            rw [dIx_s, letters_at r (by omega)]
            refine ⟨by decide +kernel, ?_⟩
            have hcut : cds (cutS (names.getLast hne) none (some 7)) = (cds (names.getLast hne)).take 7 := by rw [cds_cut]; exact cut_take _ 7
            have hcl : (cutS (names.getLast hne) none (some 7)).length ≤ 7 := by rw [← cds_len, hcut, List.length_take]; omega
            simp only [dAdd_ss]
            refine ⟨Nat.le_trans (Nat.add_le_add_right hcl 1) (by decide), ?_⟩
            refine hN1 _ _ ⟨_, oa, rfl, ?_, rfl, hoa.mono (by omega)⟩
            have e1 : cds ⟨#[97 + r]⟩ = [97 + r] := rfl
            rw [nameOk_iff, cds_app, hcut, e1]
            refine ⟨by simp only [List.length_append, List.length_take, List.length_cons, List.length_nil]; omega, fun c hc => ?_⟩
            rcases List.mem_append.mp hc with hc | hc
            · exact hlok.2 c (List.mem_of_mem_take hc)
            · rw [List.mem_singleton] at hc; subst hc; exact low_at (by omega)
        · exact hno
      rintro σ2 G2 ⟨z, oa, rfl, hz, rfl, hoa⟩
      have epa : gup G' s oa p = some (.lst (names.map .str)) := by rw [gup_ne hsp.symm]; exact ep5
      walk_at "go"
      refine inE_refS epa (name_pyC hz) (fun y hy => name_pyC (hnm.ok y hy)) ?_
      by_cases hm : z ∈ names
      · rw [decide_eq_true hm]
        walk_at "go"
        exact hN _ _ ⟨names, oa, _, _, _, _, _, rfl, gup_same, hx5.self, epa, hoa.mono (by omega), by omega, fun _ => List.length_pos_of_mem hm, hnm⟩
      · rw [decide_eq_false hm]
        walk_at "go"
        refine ⟨mty_at epa, ?_⟩
        rw [atL_at epa]
        refine ⟨by rw [sizeLine_eq, List.length_map]; omega, ?_⟩
        refine hN _ _ ⟨names ++ [z], oa, _, _, _, _, _, rfl, by rw [gup_ne hsp]; exact gup_same, hx5.self.put np, by rw [gup_same, List.map_append]; rfl, hoa.mono (by omega), by simp only [List.length_append, List.length_cons, List.length_nil]; omega, fun _ => by simp, ⟨fun y hy => ?_, ?_⟩⟩
        · rcases List.mem_append.mp hy with hy | hy
          · exact hnm.ok y hy
          · rw [List.mem_singleton] at hy; rw [hy]; exact hz
        · exact List.nodup_append.mpr ⟨hnm.nd, by simp, fun a ha b hb e => by rw [List.mem_singleton] at hb; subst hb; subst e; exact hm ha⟩
theorem go_names {s : Addr} {G : Gp} {R : DK} {o : GO} {n many : Nat} (h1 : 1 ≤ many) (h2 : many ≤ 10) (e : G s = some o) (h : BagO n o) (hn : n ≤ 800000) (k : ∀ (names : List Str) o', names.length ≤ many → 0 < names.length → NamesOk names → BagO (n + 16 * many) o' → R (.lst (names.map .str)) (gup G s o')) : sp__law_names [.ref s, .int (many : Nat)] G R := ⟨s, n, o, many, rfl, h1, h2, e, h, hn, k⟩
end K52


set_option Elab.async false
set_option linter.all false
set_option maxRecDepth 100000
set_option maxHeartbeats 4000000
set_option autoImplicit false
namespace K52
open PySem PySem.Spec PyProof.Rows L2 DL
local macro_rules | `(tactic| walk_at "d") => `(tactic| dsimp only [dSeq, dNext, dIfS, dRet, dRetN, dAsg, dName, dVar, dC, dOp, dUn, dChain, dB, dAnd, dOr, dNot, dAndV, dOrV, dNotV, dIf, dNil, dCons, dTup, dLst, newL, dCallB, dCall, dCallK, dDrop, dAug, dAugS, dSub, dM, dM0, dSlice, dNoPart, dPart, dLc, dYes, dFor, dIter, dRng1, dEnum, dZipM, srcD, dStar, dInK, dIxK, dLenSet, dRev,
  startD, wipeD, setAll, dNames, List.map_cons, List.map_nil, List.length_cons, List.length_nil, List.replicate, List.cons_append, List.nil_append, List.append_nil, List.getElem?_cons_zero, List.getElem?_cons_succ, List.set_cons_zero, List.set_cons_succ, List.map, Nat.zero_add, Nat.reduceAdd, Nat.reduceSub, Nat.sub_self, Nat.succ_sub_succ_eq_sub])
local macro_rules | `(tactic| walk_at "o") => `(tactic| simp only [dAdd_ii, dAdd_ss, dAdd_tt, dAdd_ll, dMinus_ii, dMul_ii, dMod_ii, dFdiv_ii, dPow_ii, dShl_ii, dNeg_i, dIadd_ii, dLt_ii, dLe_ii, dGt_ii, dGe_ii, dEq_ii, dNe_ii, dEq_ss, dNe_ss, dEq_bb, dNe_bb, dIs_n, dIsNot_n, dMax2_ii, dMin2_ii, dTuple_t, dTuple_l, dList_t, dList_l, dIx_t, dIx_l, dIx_s, dSl_t, dSl_l, dSl_s, newL_f, len_tup, len_lst])
local macro_rules | `(tactic| walk_at "w") => `(tactic| dsimp only [x_var, x_c, x_op, x_un, x_b, x_and, x_or, x_not, x_chain, x_andV, x_orV, x_notV, x_if, x_nil, x_cons, x_tup, x_lst0, x_lst1, x_callB, x_call, x_callK, x_next, x_seq, x_break, x_cont, x_drop, x_ret, x_ifS, x_asg, x_name, x_names, x_sub, x_aug, x_augS, x_for, x_lc0, x_lc1, x_yes, x_noPart, x_part, x_slice, x_iter, it_t, it_l, it_n, it_s, it_r, x_rng1, x_enum, x_rev, x_m, x_m0, x_mX, x_zip, x_star_t, x_star_l, x_lenSet, x_forgo0, x_lcgo0, x_while, x_par, x_sortK,
  br_t, br_f, isB_bl, isI_int, isN_some, slo_some, atL_lst, ix_t, ix_l, ix_n,
  dAdd_ii, dAdd_ss, dAdd_tt, dAdd_ll, dMinus_ii, dMul_ii, dMod_ii, dFdiv_ii, dPow_ii, dShl_ii, dNeg_i, dIadd_ii, dLt_ii, dLe_ii, dGt_ii, dGe_ii, ltE_ii, ltE_ss, srcD, isi_i, isi_s, isi_b, isi_n, isi_t, isi_nt, isi_l, isi2_i, isi2_s, isi2_b, isi2_n, isi2_t, isi2_nt, isi2_l, inon_n, inon_i, inon_s, inon_b, inon_t, inon_l, inon_r, dEq_ii, dNe_ii, dEq_ss, dNe_ss, dEq_bb, dNe_bb, dIs_n, dIsNot_n, dMax2_ii, dMin2_ii, dTuple_t, dTuple_l, dList_t, dList_l, dSl_t, dSl_l, dSl_s, newL_f, newL_t, app_r, int_b, int_i, strI_i, strX_i, strX_s,
  startD, wipeD, setAll, permL, List.filterMap, List.map_cons, List.map_nil, List.length_cons, List.length_nil, List.replicate, List.cons_append, List.nil_append, List.append_nil, List.getElem?_cons_zero, List.getElem?_cons_succ, List.set_cons_zero, List.set_cons_succ, List.map, Nat.zero_add, Nat.reduceAdd, Nat.reduceSub, Nat.sub_self, Nat.succ_sub_succ_eq_sub])
local macro_rules | `(tactic| walk_at "v") => `(tactic| simp only [ofString_inj, String.reduceEq, at_0, at_1, at_2, at_3, at_4, at_5, isN_some, isBB_bl, isB_bl, br_t, br_f, br_not, br_and, br_or, br_dec, ix_r, len_tup, len_lst, len_nt, ltE_key, gup_gup, gup_same, starD_one, cut1, cut2, kt1, kt2, kt3, kt4, kt5, kt6, isTy, String.reduceBEq, Bool.or_false, Bool.false_or, Bool.true_or, Bool.or_true, Bool.and_false, Bool.false_and, Bool.true_and, Bool.and_true, Bool.not_true, Bool.not_false, decide_true, decide_false, eq_self_iff_true, Bool.false_eq_true, Int.reduceAdd, Int.add_zero, if_true, if_false, true_and, and_true])
local macro_rules | `(tactic| walk_at "side") => `(tactic| first | with_reducible assumption | omega | exact mty_up | exact True.intro | (simp only [List.mem_cons, ofString_inj, String.reduceEq, true_or, or_true, List.length_map]; done) | with_reducible exact (rfl : (_ : Nat) = _) | exact (rfl : (_ : Option String) = _) | (refine small_line ?_; omega) | (walk_at "ll"; first | omega | (refine small_line ?_; omega) | fail) | (exact log_small (by omega)) | fail)
local macro_rules | `(tactic| walk_at "x") => `(tactic| fail)
local macro_rules | `(tactic| walk_at "go") => `(tactic| repeat' (first | dsimp only [x_var, x_c, x_op, x_un, x_b, x_and, x_or, x_not, x_chain, x_andV, x_orV, x_notV, x_if, x_nil, x_cons, x_tup, x_lst0, x_lst1, x_callB, x_call, x_callK, x_next, x_seq, x_break, x_cont, x_drop, x_ret, x_ifS, x_asg, x_name, x_names, x_sub, x_aug, x_augS, x_for, x_lc0, x_lc1, x_yes, x_noPart, x_part, x_slice, x_iter, it_t, it_l, it_n, it_s, it_r, x_rng1, x_enum, x_rev, x_m, x_m0, x_mX, x_zip, x_star_t, x_star_l, x_lenSet, x_forgo0, x_lcgo0, x_while, x_par, x_sortK, br_t, br_f, isB_bl, isI_int, isN_some, slo_some, atL_lst, ix_t, ix_l, ix_n, dAdd_ii, dAdd_ss, dAdd_tt, dAdd_ll, dMinus_ii, dMul_ii, dMod_ii, dFdiv_ii, dPow_ii, dShl_ii, dNeg_i, dIadd_ii, dLt_ii, dLe_ii, dGt_ii, dGe_ii, ltE_ii, ltE_ss, srcD, isi_i, isi_s, isi_b, isi_n, isi_t, isi_nt, isi_l, isi2_i, isi2_s, isi2_b, isi2_n, isi2_t, isi2_nt, isi2_l, inon_n, inon_i, inon_s, inon_b, inon_t, inon_l, inon_r, dEq_ii, dNe_ii, dEq_ss, dNe_ss, dEq_bb, dNe_bb, dIs_n, dIsNot_n, dMax2_ii, dMin2_ii, dTuple_t, dTuple_l, dList_t, dList_l, dSl_t, dSl_l, dSl_s, newL_f, newL_t, app_r, int_b, int_i, strI_i, strX_i, strX_s, startD, wipeD, setAll, permL, List.filterMap, List.map_cons, List.map_nil, List.length_cons, List.length_nil, List.replicate, List.cons_append, List.nil_append, List.append_nil, List.getElem?_cons_zero, List.getElem?_cons_succ, List.set_cons_zero, List.set_cons_succ, List.map, Nat.zero_add, Nat.reduceAdd, Nat.reduceSub, Nat.sub_self, Nat.succ_sub_succ_eq_sub] | simp only [ofString_inj, String.reduceEq, at_0, at_1, at_2, at_3, at_4, at_5, isN_some, isBB_bl, isB_bl, br_t, br_f, br_not, br_and, br_or, br_dec, ix_r, len_tup, len_lst, len_nt, ltE_key, gup_gup, gup_same, starD_one, cut1, cut2, kt1, kt2, kt3, kt4, kt5, kt6, isTy, String.reduceBEq, Bool.or_false, Bool.false_or, Bool.true_or, Bool.or_true, Bool.and_false, Bool.false_and, Bool.true_and, Bool.and_true, Bool.not_true, Bool.not_false, decide_true, decide_false, eq_self_iff_true, Bool.false_eq_true, Int.reduceAdd, Int.add_zero, if_true, if_false, true_and, and_true] | walk_at "x" | with_reducible refine kont_go ?_ | with_reducible refine rt_sub (by assumption) ?_ | with_reducible refine rt_lst (by assumption) ?_ | with_reducible refine rt_drop (by assumption) ?_ | with_reducible refine rt_keep (by assumption) (by assumption) ?_ | with_reducible refine rt_same ?_ | (refine fun (p : Addr) (_ : _ = none) => ?_) | refine join_gor gup_same rfl (by walk_at "side") ?_ | with_reducible refine lc_cons ?_ | with_reducible refine for_cons ?_ | refine join_go rfl (by walk_at "side") ?_ | refine And.intro (by first | with_reducible assumption | omega | exact mty_up | exact True.intro | (simp only [List.mem_cons, ofString_inj, String.reduceEq, true_or, or_true, List.length_map]; done) | with_reducible exact (rfl : (_ : Nat) = _) | exact (rfl : (_ : Option String) = _) | (refine small_line ?_; omega) | (walk_at "ll"; first | omega | (refine small_line ?_; omega) | fail) | (exact log_small (by omega)) | fail) ?_ | fail))
local macro_rules | `(tactic| walk_at "ll") => `(tactic| simp only [List.length_map, List.length_append, List.length_cons, List.length_nil, List.map_cons, List.map_nil, List.sum_cons, List.sum_nil, len_app, rng_length, ll_0, ll_1, ll_2, ll_3, ll_4, ll_5, ll_6, ll_7, ll_8, ll_9, ll_10, ll_11, ll_12, ll_13, ll_14, ll_15, ll_16, ll_17, ll_18, ll_19, ll_20, ll_21, ll_22, ll_23, ll_24, ll_25, ll_26, ll_27, ll_28, ll_29, ll_30, ll_31, ll_32, ll_33, ll_34, ll_35, ll_36, ll_37])
/-! ### what parts two rows: plain law -/
def Nx.alike : Nx → Nx → Bool
  | .fin, .fin => true | .go _, .go _ => true | .test p _ _, .test q _ _ => decide (p = q) | _, _ => false
def unlikeR (a b : Rw) : Bool := !(decide (a.os = b.os) && a.nx.alike b.nx)
def rowAt (rs : List Rw) (n : Nat) : Rw := (rs[n]?).getD ⟨[], .fin⟩
abbrev Itm := List Bool × Nat × Nat
def nextQ (a b : Nx) (w : List Bool) (q : List Itm) : List Itm := match a, b with
  | .go x, .go y => (w, x, y) :: q
  | .test _ x x', .test _ y y' => q ++ [(w ++ [false], x', y'), (w ++ [true], x, y)]
  | _, _ => q
def partF (rs : List Rw) : Nat → List (Nat × Nat) → List Itm → Option (List Bool)
  | 0, _, _ => none
  | _ + 1, _, [] => none
  | f + 1, met, (w, i, j) :: q => if (i, j) ∈ met ∨ i = j then partF rs f met q else if unlikeR (rowAt rs i) (rowAt rs j) then some w else partF rs f (met ++ [(i, j)]) (nextQ (rowAt rs i).nx (rowAt rs j).nx w q)
def partW (rs : List Rw) (i j : Nat) : Option (List Bool) := partF rs (3 * (rs.length * rs.length) + 1) [] [([], i, j)]
/-- whether a word parts two rows, going so far -/
def pby (rs : List Rw) : Nat → List Bool → Nat → Nat → Bool
  | 0, _, _, _ => false
  | f + 1, w, i, j => if unlikeR (rowAt rs i) (rowAt rs j) then decide (w = []) else match (rowAt rs i).nx, (rowAt rs j).nx with
    | .go x, .go y => pby rs f w x y
    | .test _ x x', .test _ y y' => (match w with | [] => false | b :: u => if b then pby rs f u x y else pby rs f u x' y')
    | _, _ => false
/-- rows that go on within, by a falling rank -/
structure Falls (rs : List Rw) (rk : Nat → Nat) : Prop where
  nx : ∀ i, i < rs.length → ∀ m ∈ (rowAt rs i).nx.nexts, m < rs.length ∧ rk m < rk i
theorem rowAt_some {rs : List Rw} {i : Nat} {r : Rw} (h : rs[i]? = some r) : rowAt rs i = r := by unfold rowAt; rw [h]; rfl
def Parts (rs : List Rw) (rk : Nat → Nat) (w : List Bool) (i j : Nat) : Prop := pby rs (rk i + 1) w i j = true
section
variable {rs : List Rw} {rk : Nat → Nat}
theorem pby_fuel (h : Falls rs rk) : ∀ (f g : Nat) (w : List Bool) (i j : Nat), i < rs.length → rk i < f → rk i < g → pby rs f w i j = pby rs g w i j
  | 0, _, _, _, _, _, hf, _ => by omega
  | f + 1, 0, _, _, _, _, _, hg => by omega
  | f + 1, g + 1, w, i, j, hi, hf, hg => by
    unfold pby
    split
    · rfl
    · have hn := h.nx i hi
      split
      · rename_i x y e1 e2
        rw [e1] at hn
        have := hn x (by simp [Nx.nexts])
        exact pby_fuel h f g w x y this.1 (by omega) (by omega)
      · rename_i p x x' q y y' e1 e2
        rw [e1] at hn
        have h1 := hn x (by simp [Nx.nexts])
        have h2 := hn x' (by simp [Nx.nexts])
        cases w with
        | nil => rfl
        | cons b u =>
          dsimp only
          cases b
          · exact pby_fuel h f g u x' y' h2.1 (by omega) (by omega)
          · exact pby_fuel h f g u x y h1.1 (by omega) (by omega)
      · rfl
/-- one step of going -/
theorem parts_unlike {i j : Nat} (hu : unlikeR (rowAt rs i) (rowAt rs j) = true) {w : List Bool} : Parts rs rk w i j ↔ w = [] := by
  unfold Parts pby
  rw [if_pos hu, decide_eq_true_iff]
theorem parts_go (h : Falls rs rk) {i j x y : Nat} (hi : i < rs.length) (hu : unlikeR (rowAt rs i) (rowAt rs j) = false) (e1 : (rowAt rs i).nx = .go x) (e2 : (rowAt rs j).nx = .go y) {w : List Bool} : Parts rs rk w i j ↔ Parts rs rk w x y := by
  have hx := h.nx i hi x (by rw [e1]; simp [Nx.nexts])
  unfold Parts
  rw [pby, if_neg (by rw [hu]; exact Bool.false_ne_true), e1, e2]
  dsimp only
  rw [pby_fuel h (rk i) (rk x + 1) w x y hx.1 hx.2 (by omega)]
theorem parts_test (h : Falls rs rk) {i j x x' y y' : Nat} {p q : Plc} (hi : i < rs.length) (hu : unlikeR (rowAt rs i) (rowAt rs j) = false) (e1 : (rowAt rs i).nx = .test p x x') (e2 : (rowAt rs j).nx = .test q y y') {w : List Bool} : Parts rs rk w i j ↔ ∃ b u, w = b :: u ∧ if b then Parts rs rk u x y else Parts rs rk u x' y' := by
  have hx := h.nx i hi x (by rw [e1]; simp [Nx.nexts])
  have hx' := h.nx i hi x' (by rw [e1]; simp [Nx.nexts])
  unfold Parts
  rw [pby, if_neg (by rw [hu]; exact Bool.false_ne_true), e1, e2]
  dsimp only
  cases w with
  | nil => simp
  | cons b u =>
    cases b
    · simp only [Bool.false_eq_true, if_false]
      rw [pby_fuel h (rk i) (rk x' + 1) u x' y' hx'.1 hx'.2 (by omega)]
      constructor
      · exact fun z => ⟨false, u, rfl, by simpa using z⟩
      · rintro ⟨b, v, e, z⟩
        cases e
        simpa using z
    · simp only [if_true]
      rw [pby_fuel h (rk i) (rk x + 1) u x y hx.1 hx.2 (by omega)]
      constructor
      · exact fun z => ⟨true, u, rfl, by simpa using z⟩
      · rintro ⟨b, v, e, z⟩
        cases e
        simpa using z
theorem parts_else {i j : Nat} (hu : unlikeR (rowAt rs i) (rowAt rs j) = false) (e : ∀ x y, ¬ ((rowAt rs i).nx = .go x ∧ (rowAt rs j).nx = .go y)) (e' : ∀ p x x' q y y', ¬ ((rowAt rs i).nx = .test p x x' ∧ (rowAt rs j).nx = .test q y y')) {w : List Bool} : ¬ Parts rs rk w i j := by
  unfold Parts
  rw [pby, if_neg (by rw [hu]; exact Bool.false_ne_true)]
  split
  · rename_i x y e1 e2; exact absurd ⟨e1, e2⟩ (e x y)
  · rename_i p x x' q y y' e1 e2; exact absurd ⟨e1, e2⟩ (e' p x x' q y y')
  · exact Bool.false_ne_true
/-- a parting word is no longer than the rank -/
theorem parts_len (h : Falls rs rk) : ∀ (n : Nat) (w : List Bool) (i j : Nat), rk i < n → i < rs.length → Parts rs rk w i j → w.length ≤ rk i
  | 0, _, _, _, hn, _, _ => by omega
  | n + 1, w, i, j, hn, hi, hp => by
    cases hu : unlikeR (rowAt rs i) (rowAt rs j) with
    | true => rw [parts_unlike hu] at hp; rw [hp]; exact Nat.zero_le _
    | false =>
      by_cases hg : ∃ x y, (rowAt rs i).nx = .go x ∧ (rowAt rs j).nx = .go y
      · obtain ⟨x, y, e1, e2⟩ := hg
        rw [parts_go h hi hu e1 e2] at hp
        have := h.nx i hi x (by rw [e1]; simp [Nx.nexts])
        have := parts_len h n w x y (by omega) this.1 hp
        omega
      · by_cases ht : ∃ p x x' q y y', (rowAt rs i).nx = .test p x x' ∧ (rowAt rs j).nx = .test q y y'
        · obtain ⟨p, x, x', q, y, y', e1, e2⟩ := ht
          rw [parts_test h hi hu e1 e2] at hp
          obtain ⟨b, u, rfl, hp⟩ := hp
          have h1 := h.nx i hi x (by rw [e1]; simp [Nx.nexts])
          have h2 := h.nx i hi x' (by rw [e1]; simp [Nx.nexts])
          cases b
          · have := parts_len h n u x' y' (by omega) h2.1 (by simpa using hp)
            rw [List.length_cons]; omega
          · have := parts_len h n u x y (by omega) h1.1 (by simpa using hp)
            rw [List.length_cons]; omega
        · exact absurd hp (parts_else hu (fun x y z => hg ⟨x, y, z⟩) fun p x x' q y y' z => ht ⟨p, x, x', q, y, y', z⟩)
end
/-- words by number: shorter ones first, then by order -/
def code (w : List Bool) : Nat := w.foldl (fun c b => 2 * c + b.toNat) 1
theorem code_snoc (w : List Bool) (b : Bool) : code (w ++ [b]) = 2 * code w + b.toNat := by unfold code; rw [List.foldl_append]; rfl
theorem code_app (w u : List Bool) : code (w ++ u) = u.foldl (fun c b => 2 * c + b.toNat) (code w) := by unfold code; rw [List.foldl_append]
theorem code_ge (w u : List Bool) : code w ≤ code (w ++ u) := by
  rw [code_app]
  have : ∀ (u : List Bool) (c : Nat), c ≤ u.foldl (fun c b => 2 * c + b.toNat) c := fun u => by
    induction u with
    | nil => exact fun c => Nat.le_refl _
    | cons b u ih => exact fun c => Nat.le_trans (by show c ≤ 2 * c + b.toNat; omega) (ih _)
  exact this u _
/-- how the search stands: each word that parts a met pair has a thing of the queue that is not greater -/
structure Srch (rs : List Rw) (rk : Nat → Nat) (i0 j0 : Nat) (met : List (Nat × Nat)) (q : List Itm) : Prop where
  srt : q.Pairwise fun a b => code a.1 < code b.1
  bd : ∃ m, ∀ a ∈ q, m < code a.1 ∧ code a.1 ≤ 2 * m + 1
  inn : ∀ a ∈ q, a.2.1 < rs.length ∧ a.2.2 < rs.length
  sound : ∀ a ∈ q, ∀ u, Parts rs rk u a.2.1 a.2.2 → Parts rs rk (a.1 ++ u) i0 j0
  wit : ∀ p ∈ met, ∃ w0, (∀ a ∈ q, code w0 ≤ code a.1) ∧ ∀ u, Parts rs rk u p.1 p.2 → ∃ a ∈ q, ∃ u', Parts rs rk u' a.2.1 a.2.2 ∧ code (a.1 ++ u') ≤ code (w0 ++ u) ∧ rk a.2.1 < rk p.1
  all : ∀ v, Parts rs rk v i0 j0 → ∃ a ∈ q, ∃ u', Parts rs rk u' a.2.1 a.2.2 ∧ code (a.1 ++ u') ≤ code v
section
variable {rs : List Rw} {rk : Nat → Nat} {i0 j0 : Nat}
theorem Srch.step {met met' : List (Nat × Nat)} {w : List Bool} {i j : Nat} {q q' : List Itm} (h : Srch rs rk i0 j0 met ((w, i, j) :: q)) (hm : ∀ p ∈ met', p ∈ met ∨ p = (i, j)) (h1 : ∀ a ∈ q, a ∈ q')
    (h2 : ∀ u, Parts rs rk u i j → ∃ a ∈ q', ∃ u', Parts rs rk u' a.2.1 a.2.2 ∧ code (a.1 ++ u') ≤ code (w ++ u) ∧ rk a.2.1 < rk i)
    (h3 : ∀ a ∈ q', a ∈ q ∨ (code w ≤ code a.1 ∧ (a.2.1 < rs.length ∧ a.2.2 < rs.length) ∧ ∀ u, Parts rs rk u a.2.1 a.2.2 → Parts rs rk (a.1 ++ u) i0 j0))
    (hs : q'.Pairwise fun a b => code a.1 < code b.1) (hb : ∃ m, ∀ a ∈ q', m < code a.1 ∧ code a.1 ≤ 2 * m + 1) : Srch rs rk i0 j0 met' q' := by
  have hq : ∀ a ∈ q, code w ≤ code a.1 := fun a ha => Nat.le_of_lt ((List.pairwise_cons.mp h.srt).1 a ha)
  refine ⟨hs, hb, fun a ha => ?_, fun a ha u hu => ?_, fun p hp => ?_, fun v hv => ?_⟩
  · rcases h3 a ha with c | c
    · exact h.inn a (List.mem_cons_of_mem _ c)
    · exact c.2.1
  · rcases h3 a ha with c | c
    · exact h.sound a (List.mem_cons_of_mem _ c) u hu
    · exact c.2.2 u hu
  · rcases hm p hp with hp | rfl
    · obtain ⟨w0, a1, a2⟩ := h.wit p hp
      refine ⟨w0, fun a ha => ?_, fun u hu => ?_⟩
      · rcases h3 a ha with c | c
        · exact a1 a (List.mem_cons_of_mem _ c)
        · exact Nat.le_trans (a1 _ List.mem_cons_self) c.1
      · obtain ⟨a, ha, u', b1, b2, b3⟩ := a2 u hu
        rcases List.mem_cons.mp ha with rfl | ha
        · obtain ⟨a', ha', u2, c1, c2, c3⟩ := h2 u' b1
          exact ⟨a', ha', u2, c1, Nat.le_trans c2 b2, Nat.lt_trans c3 b3⟩
        · exact ⟨a, h1 a ha, u', b1, b2, b3⟩
    · refine ⟨w, fun a ha => ?_, h2⟩
      rcases h3 a ha with c | c
      · exact hq a c
      · exact c.1
  · obtain ⟨a, ha, u', b1, b2⟩ := h.all v hv
    rcases List.mem_cons.mp ha with rfl | ha
    · obtain ⟨a', ha', u2, c1, c2, c3⟩ := h2 u' b1
      exact ⟨a', ha', u2, c1, Nat.le_trans c2 b2⟩
    · exact ⟨a, h1 a ha, u', b1, b2⟩
theorem Srch.next {met : List (Nat × Nat)} {w : List Bool} {i j : Nat} {q : List Itm} (hf : Falls rs rk) (h : Srch rs rk i0 j0 met ((w, i, j) :: q)) (hu : unlikeR (rowAt rs i) (rowAt rs j) = false) : Srch rs rk i0 j0 (met ++ [(i, j)]) (nextQ (rowAt rs i).nx (rowAt rs j).nx w q) := by
  have hij := h.inn _ List.mem_cons_self
  have hmm : ∀ p ∈ met ++ [(i, j)], p ∈ met ∨ p = (i, j) := fun p hp => (List.mem_append.mp hp).imp id fun e => List.mem_singleton.mp e
  have hsq := (List.pairwise_cons.mp h.srt).2
  have hlt := (List.pairwise_cons.mp h.srt).1
  have hsd := h.sound _ List.mem_cons_self
  obtain ⟨m, hb⟩ := h.bd
  have hxi := hf.nx i hij.1
  have hxj := hf.nx j hij.2
  by_cases hg : ∃ x y, (rowAt rs i).nx = .go x ∧ (rowAt rs j).nx = .go y
  · obtain ⟨x, y, e1, e2⟩ := hg
    rw [e1] at hxi
    rw [e2] at hxj
    have hx := hxi x (by simp [Nx.nexts])
    have hy := hxj y (by simp [Nx.nexts])
    rw [e1, e2]
    show Srch rs rk i0 j0 _ ((w, x, y) :: q)
    refine h.step hmm (fun a ha => List.mem_cons_of_mem _ ha) (fun u hp => ⟨(w, x, y), List.mem_cons_self, u, (parts_go hf hij.1 hu e1 e2).mp hp, Nat.le_refl _, hx.2⟩) (fun a ha => ?_) (List.pairwise_cons.mpr ⟨hlt, hsq⟩) ⟨m, fun a ha => ?_⟩
    · rcases List.mem_cons.mp ha with rfl | ha
      · exact .inr ⟨Nat.le_refl _, ⟨hx.1, hy.1⟩, fun u hp => hsd u ((parts_go hf hij.1 hu e1 e2).mpr hp)⟩
      · exact .inl ha
    · rcases List.mem_cons.mp ha with rfl | ha
      · exact hb (w, i, j) List.mem_cons_self
      · exact hb a (List.mem_cons_of_mem _ ha)
  · by_cases ht : ∃ p x x' q y y', (rowAt rs i).nx = .test p x x' ∧ (rowAt rs j).nx = .test q y y'
    · obtain ⟨p, x, x', p', y, y', e1, e2⟩ := ht
      rw [e1] at hxi
      rw [e2] at hxj
      have hx := hxi x (by simp [Nx.nexts])
      have hx' := hxi x' (by simp [Nx.nexts])
      have hy := hxj y (by simp [Nx.nexts])
      have hy' := hxj y' (by simp [Nx.nexts])
      rw [e1, e2]
      show Srch rs rk i0 j0 _ (q ++ [(w ++ [false], x', y'), (w ++ [true], x, y)])
      have hbw := hb _ List.mem_cons_self
      have c0 : code (w ++ [false]) = 2 * code w := by rw [code_snoc]; rfl
      have c1 : code (w ++ [true]) = 2 * code w + 1 := by rw [code_snoc]; rfl
      dsimp only at hbw hlt
      refine h.step hmm (fun a ha => List.mem_append_left _ ha) (fun u hp => ?_) (fun a ha => ?_) ?_ ⟨code w, fun a ha => ?_⟩
      · obtain ⟨b, v, rfl, hp2⟩ := (parts_test hf hij.1 hu e1 e2).mp hp
        cases b
        · exact ⟨(w ++ [false], x', y'), by simp, v, by simpa using hp2, by rw [List.append_assoc, List.singleton_append]; exact Nat.le_refl _, hx'.2⟩
        · exact ⟨(w ++ [true], x, y), by simp, v, by simpa using hp2, by rw [List.append_assoc, List.singleton_append]; exact Nat.le_refl _, hx.2⟩
      · rcases List.mem_append.mp ha with ha | ha
        · exact .inl ha
        · refine .inr ?_
          simp only [List.mem_cons, List.not_mem_nil, or_false] at ha
          rcases ha with rfl | rfl
          · exact ⟨code_ge w _, ⟨hx'.1, hy'.1⟩, fun u hp => by rw [List.append_assoc, List.singleton_append]; exact hsd _ ((parts_test hf hij.1 hu e1 e2).mpr ⟨false, u, rfl, by simpa using hp⟩)⟩
          · exact ⟨code_ge w _, ⟨hx.1, hy.1⟩, fun u hp => by rw [List.append_assoc, List.singleton_append]; exact hsd _ ((parts_test hf hij.1 hu e1 e2).mpr ⟨true, u, rfl, by simpa using hp⟩)⟩
      · refine List.pairwise_append.mpr ⟨hsq, ?_, fun a ha b hb2 => ?_⟩
        · simp [c0, c1]
        · have := hb a (List.mem_cons_of_mem _ ha)
          simp only [List.mem_cons, List.not_mem_nil, or_false] at hb2
          rcases hb2 with rfl | rfl
          · dsimp only; rw [c0]; omega
          · dsimp only; rw [c1]; omega
      · rcases List.mem_append.mp ha with ha | ha
        · have := hb a (List.mem_cons_of_mem _ ha)
          have := hlt a ha
          omega
        · simp only [List.mem_cons, List.not_mem_nil, or_false] at ha
          rcases ha with rfl | rfl
          · dsimp only; rw [c0]; omega
          · dsimp only; rw [c1]; omega
    · have hq : nextQ (rowAt rs i).nx (rowAt rs j).nx w q = q := by
        unfold nextQ
        split
        · rename_i x y e1 e2; exact absurd ⟨x, y, e1, e2⟩ hg
        · rename_i p x x' q' y y' e1 e2; exact absurd ⟨p, x, x', q', y, y', e1, e2⟩ ht
        · rfl
      rw [hq]
      refine h.step hmm (fun a ha => ha) (fun u hp => absurd hp (parts_else hu (fun x y z => hg ⟨x, y, z⟩) fun p x x' q y y' z => ht ⟨p, x, x', q, y, y', z⟩)) (fun a ha => .inl ha) hsq ⟨m, fun a ha => hb a (List.mem_cons_of_mem _ ha)⟩
structure MetIn (rs : List Rw) (met : List (Nat × Nat)) : Prop where
  nd : met.Nodup
  inn : ∀ p ∈ met, p.1 < rs.length ∧ p.2 < rs.length
theorem MetIn.len {met : List (Nat × Nat)} (h : MetIn rs met) : met.length ≤ rs.length * rs.length := by
  have := nodup_sub (l1 := met) (l2 := (List.range rs.length).flatMap fun i => (List.range rs.length).map fun j => (i, j)) h.nd fun p hp => by
    obtain ⟨a, b⟩ := h.inn p hp
    exact List.mem_flatMap.mpr ⟨p.1, List.mem_range.mpr a, List.mem_map.mpr ⟨p.2, List.mem_range.mpr b, rfl⟩⟩
  rw [List.length_flatMap] at this
  have e : ∀ (n c : Nat), ((List.range n).map fun _ => c).sum = n * c := fun n c => by
    induction n with
    | zero => simp
    | succ n ih => rw [List.range_succ, List.map_append, List.sum_append, ih, Nat.succ_mul]; simp
  simp only [List.length_map, List.length_range, e] at this
  exact this
theorem MetIn.snoc {met : List (Nat × Nat)} (h : MetIn rs met) {i j : Nat} (hi : i < rs.length) (hj : j < rs.length) (hn : (i, j) ∉ met) : MetIn rs (met ++ [(i, j)]) :=
  ⟨List.nodup_append.mpr ⟨h.nd, by simp, fun a ha b hb e => by rw [List.mem_singleton] at hb; subst hb; subst e; exact hn ha⟩, fun p hp => by
    rcases List.mem_append.mp hp with hp | hp
    · exact h.inn p hp
    · rw [List.mem_singleton] at hp; rw [hp]; exact ⟨hi, hj⟩⟩
end
end K52


set_option Elab.async false
set_option linter.all false
set_option maxRecDepth 100000
set_option maxHeartbeats 4000000
set_option autoImplicit false
namespace K52
open PySem PySem.Spec PyProof.Rows L2 DL
local macro_rules | `(tactic| walk_at "d") => `(tactic| dsimp only [dSeq, dNext, dIfS, dRet, dRetN, dAsg, dName, dVar, dC, dOp, dUn, dChain, dB, dAnd, dOr, dNot, dAndV, dOrV, dNotV, dIf, dNil, dCons, dTup, dLst, newL, dCallB, dCall, dCallK, dDrop, dAug, dAugS, dSub, dM, dM0, dSlice, dNoPart, dPart, dLc, dYes, dFor, dIter, dRng1, dEnum, dZipM, srcD, dStar, dInK, dIxK, dLenSet, dRev,
  startD, wipeD, setAll, dNames, List.map_cons, List.map_nil, List.length_cons, List.length_nil, List.replicate, List.cons_append, List.nil_append, List.append_nil, List.getElem?_cons_zero, List.getElem?_cons_succ, List.set_cons_zero, List.set_cons_succ, List.map, Nat.zero_add, Nat.reduceAdd, Nat.reduceSub, Nat.sub_self, Nat.succ_sub_succ_eq_sub])
local macro_rules | `(tactic| walk_at "o") => `(tactic| simp only [dAdd_ii, dAdd_ss, dAdd_tt, dAdd_ll, dMinus_ii, dMul_ii, dMod_ii, dFdiv_ii, dPow_ii, dShl_ii, dNeg_i, dIadd_ii, dLt_ii, dLe_ii, dGt_ii, dGe_ii, dEq_ii, dNe_ii, dEq_ss, dNe_ss, dEq_bb, dNe_bb, dIs_n, dIsNot_n, dMax2_ii, dMin2_ii, dTuple_t, dTuple_l, dList_t, dList_l, dIx_t, dIx_l, dIx_s, dSl_t, dSl_l, dSl_s, newL_f, len_tup, len_lst])
local macro_rules | `(tactic| walk_at "w") => `(tactic| dsimp only [x_var, x_c, x_op, x_un, x_b, x_and, x_or, x_not, x_chain, x_andV, x_orV, x_notV, x_if, x_nil, x_cons, x_tup, x_lst0, x_lst1, x_callB, x_call, x_callK, x_next, x_seq, x_break, x_cont, x_drop, x_ret, x_ifS, x_asg, x_name, x_names, x_sub, x_aug, x_augS, x_for, x_lc0, x_lc1, x_yes, x_noPart, x_part, x_slice, x_iter, it_t, it_l, it_n, it_s, it_r, x_rng1, x_enum, x_rev, x_m, x_m0, x_mX, x_zip, x_star_t, x_star_l, x_lenSet, x_forgo0, x_lcgo0, x_while, x_par, x_sortK,
  br_t, br_f, isB_bl, isI_int, isN_some, slo_some, atL_lst, ix_t, ix_l, ix_n,
  dAdd_ii, dAdd_ss, dAdd_tt, dAdd_ll, dMinus_ii, dMul_ii, dMod_ii, dFdiv_ii, dPow_ii, dShl_ii, dNeg_i, dIadd_ii, dLt_ii, dLe_ii, dGt_ii, dGe_ii, ltE_ii, ltE_ss, srcD, isi_i, isi_s, isi_b, isi_n, isi_t, isi_nt, isi_l, isi2_i, isi2_s, isi2_b, isi2_n, isi2_t, isi2_nt, isi2_l, inon_n, inon_i, inon_s, inon_b, inon_t, inon_l, inon_r, dEq_ii, dNe_ii, dEq_ss, dNe_ss, dEq_bb, dNe_bb, dIs_n, dIsNot_n, dMax2_ii, dMin2_ii, dTuple_t, dTuple_l, dList_t, dList_l, dSl_t, dSl_l, dSl_s, newL_f, newL_t, app_r, int_b, int_i, strI_i, strX_i, strX_s,
  startD, wipeD, setAll, permL, List.filterMap, List.map_cons, List.map_nil, List.length_cons, List.length_nil, List.replicate, List.cons_append, List.nil_append, List.append_nil, List.getElem?_cons_zero, List.getElem?_cons_succ, List.set_cons_zero, List.set_cons_succ, List.map, Nat.zero_add, Nat.reduceAdd, Nat.reduceSub, Nat.sub_self, Nat.succ_sub_succ_eq_sub])
local macro_rules | `(tactic| walk_at "v") => `(tactic| simp only [ofString_inj, String.reduceEq, at_0, at_1, at_2, at_3, at_4, at_5, isN_some, isBB_bl, isB_bl, br_t, br_f, br_not, br_and, br_or, br_dec, ix_r, len_tup, len_lst, len_nt, ltE_key, gup_gup, gup_same, starD_one, cut1, cut2, kt1, kt2, kt3, kt4, kt5, kt6, isTy, String.reduceBEq, Bool.or_false, Bool.false_or, Bool.true_or, Bool.or_true, Bool.and_false, Bool.false_and, Bool.true_and, Bool.and_true, Bool.not_true, Bool.not_false, decide_true, decide_false, eq_self_iff_true, Bool.false_eq_true, Int.reduceAdd, Int.add_zero, if_true, if_false, true_and, and_true])
local macro_rules | `(tactic| walk_at "side") => `(tactic| first | with_reducible assumption | omega | exact mty_up | exact True.intro | (simp only [List.mem_cons, ofString_inj, String.reduceEq, true_or, or_true, List.length_map]; done) | with_reducible exact (rfl : (_ : Nat) = _) | exact (rfl : (_ : Option String) = _) | (refine small_line ?_; omega) | (walk_at "ll"; first | omega | (refine small_line ?_; omega) | fail) | (exact log_small (by omega)) | fail)
local macro_rules | `(tactic| walk_at "x") => `(tactic| fail)
local macro_rules | `(tactic| walk_at "go") => `(tactic| repeat' (first | dsimp only [x_var, x_c, x_op, x_un, x_b, x_and, x_or, x_not, x_chain, x_andV, x_orV, x_notV, x_if, x_nil, x_cons, x_tup, x_lst0, x_lst1, x_callB, x_call, x_callK, x_next, x_seq, x_break, x_cont, x_drop, x_ret, x_ifS, x_asg, x_name, x_names, x_sub, x_aug, x_augS, x_for, x_lc0, x_lc1, x_yes, x_noPart, x_part, x_slice, x_iter, it_t, it_l, it_n, it_s, it_r, x_rng1, x_enum, x_rev, x_m, x_m0, x_mX, x_zip, x_star_t, x_star_l, x_lenSet, x_forgo0, x_lcgo0, x_while, x_par, x_sortK, br_t, br_f, isB_bl, isI_int, isN_some, slo_some, atL_lst, ix_t, ix_l, ix_n, dAdd_ii, dAdd_ss, dAdd_tt, dAdd_ll, dMinus_ii, dMul_ii, dMod_ii, dFdiv_ii, dPow_ii, dShl_ii, dNeg_i, dIadd_ii, dLt_ii, dLe_ii, dGt_ii, dGe_ii, ltE_ii, ltE_ss, srcD, isi_i, isi_s, isi_b, isi_n, isi_t, isi_nt, isi_l, isi2_i, isi2_s, isi2_b, isi2_n, isi2_t, isi2_nt, isi2_l, inon_n, inon_i, inon_s, inon_b, inon_t, inon_l, inon_r, dEq_ii, dNe_ii, dEq_ss, dNe_ss, dEq_bb, dNe_bb, dIs_n, dIsNot_n, dMax2_ii, dMin2_ii, dTuple_t, dTuple_l, dList_t, dList_l, dSl_t, dSl_l, dSl_s, newL_f, newL_t, app_r, int_b, int_i, strI_i, strX_i, strX_s, startD, wipeD, setAll, permL, List.filterMap, List.map_cons, List.map_nil, List.length_cons, List.length_nil, List.replicate, List.cons_append, List.nil_append, List.append_nil, List.getElem?_cons_zero, List.getElem?_cons_succ, List.set_cons_zero, List.set_cons_succ, List.map, Nat.zero_add, Nat.reduceAdd, Nat.reduceSub, Nat.sub_self, Nat.succ_sub_succ_eq_sub] | simp only [ofString_inj, String.reduceEq, at_0, at_1, at_2, at_3, at_4, at_5, isN_some, isBB_bl, isB_bl, br_t, br_f, br_not, br_and, br_or, br_dec, ix_r, len_tup, len_lst, len_nt, ltE_key, gup_gup, gup_same, starD_one, cut1, cut2, kt1, kt2, kt3, kt4, kt5, kt6, isTy, String.reduceBEq, Bool.or_false, Bool.false_or, Bool.true_or, Bool.or_true, Bool.and_false, Bool.false_and, Bool.true_and, Bool.and_true, Bool.not_true, Bool.not_false, decide_true, decide_false, eq_self_iff_true, Bool.false_eq_true, Int.reduceAdd, Int.add_zero, if_true, if_false, true_and, and_true] | walk_at "x" | with_reducible refine kont_go ?_ | with_reducible refine rt_sub (by assumption) ?_ | with_reducible refine rt_lst (by assumption) ?_ | with_reducible refine rt_drop (by assumption) ?_ | with_reducible refine rt_keep (by assumption) (by assumption) ?_ | with_reducible refine rt_same ?_ | (refine fun (p : Addr) (_ : _ = none) => ?_) | refine join_gor gup_same rfl (by walk_at "side") ?_ | with_reducible refine lc_cons ?_ | with_reducible refine for_cons ?_ | refine join_go rfl (by walk_at "side") ?_ | refine And.intro (by first | with_reducible assumption | omega | exact mty_up | exact True.intro | (simp only [List.mem_cons, ofString_inj, String.reduceEq, true_or, or_true, List.length_map]; done) | with_reducible exact (rfl : (_ : Nat) = _) | exact (rfl : (_ : Option String) = _) | (refine small_line ?_; omega) | (walk_at "ll"; first | omega | (refine small_line ?_; omega) | fail) | (exact log_small (by omega)) | fail) ?_ | fail))
local macro_rules | `(tactic| walk_at "ll") => `(tactic| simp only [List.length_map, List.length_append, List.length_cons, List.length_nil, List.map_cons, List.map_nil, List.sum_cons, List.sum_nil, len_app, rng_length, ll_0, ll_1, ll_2, ll_3, ll_4, ll_5, ll_6, ll_7, ll_8, ll_9, ll_10, ll_11, ll_12, ll_13, ll_14, ll_15, ll_16, ll_17, ll_18, ll_19, ll_20, ll_21, ll_22, ll_23, ll_24, ll_25, ll_26, ll_27, ll_28, ll_29, ll_30, ll_31, ll_32, ll_33, ll_34, ll_35, ll_36, ll_37])
/-! ### what parts two rows, read -/
def Nx.plP (M : Mach) : Nx → Prop | .test p _ _ => p.ok M | _ => True
def RwP (M : Mach) (r : Rw) : Prop := (∀ o ∈ r.os, o.ok M) ∧ r.nx.plP M
theorem ord_pyC {M : Mach} (hM : M.ok) {o : Ord} (h : o.ok M) : pyD o.d = true ∧ depD o.d ≤ 2 := by
  have hs : ∀ z : String, pyD (.str (Str.ofString z)) = true → True := fun _ _ => trivial
  have hp : ∀ p : Plc, depD p.d ≤ 1 := fun p => by cases p <;> simp [Plc.d, depD, depDs]
  have k1 : pyD (.str "alu") = true := py_of "alu"
  have k2 : pyD (.str "move") = true := py_of "move"
  have k3 : pyD (.str "put") = true := py_of "put"
  have k4 : pyD (.str "load") = true := py_of "load"
  have k5 : pyD (.str "store") = true := py_of "store"
  cases o with
  | alu op t a b =>
    have := hp t; have := hp a; have := hp b
    refine ⟨?_, by simp only [Ord.d, depD, depDs]; omega⟩
    have h0 := plc_py hM h.2.1
    have h1 := plc_py hM h.2.2.1
    have h2 := plc_py hM h.2.2.2
    have h3 : pyD (.str op) = true := by
      have := h.1
      have key : ∀ z ∈ opL, pyD (.str z) = true := by decide +kernel
      exact key op this
    simp only [Ord.d, pyD, pyDs, Bool.and_eq_true] at k1 h3 ⊢
    exact ⟨k1, h3, h0, h1, h2, trivial⟩
  | move t a =>
    have := hp t; have := hp a
    refine ⟨?_, by simp only [Ord.d, depD, depDs]; omega⟩
    have h0 := plc_py hM h.1
    have h1 := plc_py hM h.2
    simp only [Ord.d, pyD, pyDs, Bool.and_eq_true] at k2 ⊢
    exact ⟨k2, h0, h1, trivial⟩
  | put t a =>
    have := hp t
    refine ⟨?_, by simp only [Ord.d, depD, depDs]; omega⟩
    have h0 := plc_py hM h.1
    simp only [Ord.d, pyD, pyDs, Bool.and_eq_true] at k3 ⊢
    exact ⟨k3, h0, trivial, trivial⟩
  | load t a =>
    have := hp t; have := hp a
    refine ⟨?_, by simp only [Ord.d, depD, depDs]; omega⟩
    have h0 := plc_py hM h.1
    have h1 := plc_py hM h.2
    simp only [Ord.d, pyD, pyDs, Bool.and_eq_true] at k4 ⊢
    exact ⟨k4, h0, h1, trivial⟩
  | store t a =>
    have := hp t; have := hp a
    refine ⟨?_, by simp only [Ord.d, depD, depDs]; omega⟩
    have h0 := plc_py hM h.1
    have h1 := plc_py hM h.2
    simp only [Ord.d, pyD, pyDs, Bool.and_eq_true] at k5 ⊢
    exact ⟨k5, h0, h1, trivial⟩
theorem ords_pyC {M : Mach} (hM : M.ok) : ∀ {os : List Ord}, (∀ o ∈ os, o.ok M) → pyDs (os.map Ord.d) = true ∧ depDs (os.map Ord.d) ≤ 3
  | [], _ => ⟨rfl, by simp [depDs]⟩
  | o :: os, h => by
    have h1 := ord_pyC hM (h o List.mem_cons_self)
    have h2 := ords_pyC hM fun x hx => h x (List.mem_cons_of_mem o hx)
    simp only [List.map_cons, pyDs, depDs, h1.1, h2.1, Bool.and_self, true_and]
    omega
theorem eqDs_ordP : ∀ xs ys : List Ord, eqDs (xs.map Ord.d) (ys.map Ord.d) = decide (xs = ys)
  | [], [] => by simp [eqDs]
  | [], y :: ys => by simp [eqDs]
  | x :: xs, [] => by simp [eqDs]
  | x :: xs, y :: ys => by
    simp only [List.map_cons, eqDs, eqD_ord, eqDs_ordP xs ys]
    rw [Bool.eq_iff_iff]; simp
theorem neOs_go {M : Mach} (hM : M.ok) {a b : List Ord} (ha : ∀ o ∈ a, o.ok M) (hb : ∀ o ∈ b, o.ok M) {G : Gp} {R : DK} (k : R (.bl (!decide (a = b))) G) : dNe (.tup (a.map Ord.d)) (.tup (b.map Ord.d)) G R := by
  have h1 := ords_pyC hM ha
  have h2 := ords_pyC hM hb
  rw [ne_pure (by simpa only [pyD] using h1.1) (by simpa only [pyD] using h2.1) (by simp only [depD]; omega) (by simp only [depD]; omega)]
  simpa only [eqD, eqDs_ordP] using k
theorem nePlc_go {M : Mach} (hM : M.ok) {p q : Plc} (hp : p.ok M) (hq : q.ok M) {G : Gp} {R : DK} (k : R (.bl (!decide (p = q))) G) : dNe p.d q.d G R := by
  rw [ne_pure (plc_py hM hp) (plc_py hM hq) (by have := p.ky.2; omega) (by have := q.ky.2; omega), eqD_plc]
  exact k
def sp_is_unlike : DSp := fun ds G R => ∃ (M : Mach) (a b : Rw), ds = [a.d, b.d] ∧ M.ok ∧ RwP M a ∧ RwP M b ∧ R (.bl (unlikeR a b)) G
local macro_rules | `(tactic| walk_at "x") => `(tactic| fail)
theorem ok_is_unlike {P : Program} {w : World} {K : PySem.W.Frag} {mg : Str → Option Value} {base : Heap} {a : Ad} (T : Tx w K mg a) : FnD P w K mg base 1 a.f_is_unlike a.fd_is_unlike ["one", "other"] sp_is_unlike := by
  refine fun_okD T.F_is_unlike sc_is_unlike (fun ds G R h => ?_) (fun cdv A outer s H hr => ⟨_, (qss_one (qs_ret (qe_or (qe_cmp (od_ne hr.units) (qe_ix xd_ix (qv 0) qe_int (fun _ _ => rfl)) (qe_ix xd_ix (qv 1) qe_int (fun _ _ => rfl)) (nomark _)) (qe_or (qe_cmp (od_ne hr.units) (qe_ix xd_ix (qe_ix xd_ix (qv 0) qe_int (fun _ _ => rfl)) qe_int (fun _ _ => rfl)) (qe_ix xd_ix (qe_ix xd_ix (qv 1) qe_int (fun _ _ => rfl)) qe_int (fun _ _ => rfl)) (nomark _)) (qe_one (qe_and (qe_cmp (od_eq hr.units) (qe_ix xd_ix (qe_ix xd_ix (qv 0) qe_int (fun _ _ => rfl)) qe_int (fun _ _ => rfl)) qe_str (nomark _)) (qe_one (qe_cmp (od_ne hr.units) (qe_ix xd_ix (qe_ix xd_ix (qv 0) qe_int (fun _ _ => rfl)) qe_int (fun _ _ => rfl)) (qe_ix xd_ix (qe_ix xd_ix (qv 1) qe_int (fun _ _ => rfl)) qe_int (fun _ _ => rfl)) (nomark _))))))))), fun ds G R h => ?_⟩)
  · obtain ⟨M, a, b, rfl, _⟩ := h; rfl
  · obtain ⟨M, a, b, rfl, hM, ha, hb, h⟩ := h
    unfold Rw.d
    walk_at "go"
    refine neOs_go hM ha.1 hb.1 ?_
    unfold unlikeR at h
    by_cases he : a.os = b.os
    · rw [decide_eq_true he] at h ⊢
      obtain ⟨_, ha⟩ := ha
      obtain ⟨_, hb⟩ := hb
      cases ea : a.nx <;> cases eb : b.nx <;> rw [ea] at ha h <;> rw [eb] at hb h <;> simp only [Nx.alike, Bool.and_false, Bool.and_true, Bool.not_false, Bool.not_true, Bool.true_and] at h <;> unfold Nx.d <;> walk_at "go" <;> first
        | exact h
        | (refine nePlc_go hM ha hb ?_; walk_at "go"; exact h)
    · rw [decide_eq_false he] at h ⊢
      walk_at "go"
      exact h
theorem go_unlike {M : Mach} {a b : Rw} {G : Gp} {R : DK} (hM : M.ok) (ha : RwP M a) (hb : RwP M b) (k : R (.bl (unlikeR a b)) G) : sp_is_unlike [a.d, b.d] G R := ⟨M, a, b, rfl, hM, ha, hb, k⟩
def sp_nexts_of : DSp := fun ds G R => ∃ x : Nx, ds = [x.d] ∧ R (.lst (x.nexts.map fun n => .int (n : Nat))) G
theorem ok_nexts_of {P : Program} {w : World} {K : PySem.W.Frag} {mg : Str → Option Value} {base : Heap} {a : Ad} (T : Tx w K mg a) : FnD P w K mg base 1 a.f_nexts_of a.fd_nexts_of ["further"] sp_nexts_of := by
  refine fun_okD T.F_nexts_of sc_nexts_of (fun ds G R h => ?_) (fun cdv A outer s H hr => ⟨_, (qss_cons (qs_if (qt_cmp (od_eq hr.units) (qe_ix xd_ix (qv 0) qe_int (fun _ _ => rfl)) qe_str (nomark _))
      (qss_one (qs_ret (qe_lst false (qa_cons (qe_ix xd_ix (qv 0) qe_int (fun _ _ => rfl)) qa_nil))))
      qss_nil)
      (qss_cons (qs_if (qt_cmp (od_eq hr.units) (qe_ix xd_ix (qv 0) qe_int (fun _ _ => rfl)) qe_str (nomark _))
      (qss_one (qs_ret (qe_lst false (qa_cons (qe_ix xd_ix (qv 0) qe_int (fun _ _ => rfl)) (qa_cons (qe_ix xd_ix (qv 0) qe_int (fun _ _ => rfl)) qa_nil)))))
      qss_nil)
      (qss_one (qs_ret (qe_lst false qa_nil))))), fun ds G R h => ?_⟩)
  · obtain ⟨x, rfl, _⟩ := h; rfl
  · obtain ⟨x, rfl, h⟩ := h
    cases x with
    | fin => unfold Nx.d; walk_at "go"; exact h
    | go n => unfold Nx.d; walk_at "go"; exact h
    | test p i j => unfold Nx.d; walk_at "go"; exact h
theorem go_nexts (x : Nx) {G : Gp} {R : DK} (k : R (.lst (x.nexts.map fun n => .int (n : Nat))) G) : sp_nexts_of [x.d] G R := ⟨x, rfl, k⟩
def wD (w : List Bool) : D := .tup (w.map .bl)
def optW : Option (List Bool) → D | none => .non | some w => wD w
def itD2 (a : Itm) : D := .tup [wD a.1, .int a.2.1, .int a.2.2]
def pairD (p : Nat × Nat) : D := .tup [.int p.1, .int p.2]
theorem eqD_pair (a b : Nat × Nat) : eqD (pairD a) (pairD b) = decide (a = b) := by
  rw [Bool.eq_iff_iff]
  simp only [pairD, eqD, eqDs, Bool.and_true, Bool.and_eq_true, beq_iff_eq, decide_eq_true_eq, Prod.ext_iff]
  omega
theorem pair_ky (a : Nat × Nat) : kyD (pairD a) = true ∧ depD (pairD a) ≤ 8 := by simp [pairD, kyD, kyDs, depD, depDs]
structure StoreP (M : Mach) (rs : List Rw) (rk : Nat → Nat) : Prop where
  row : ∀ r ∈ rs, RwP M r
  falls : Falls rs rk
theorem look_met (met : List (Nat × Nat)) (k : Nat × Nat) : lookV (met.map fun p => (p, true)) k = if k ∈ met then some true else none := by
  induction met with
  | nil => rfl
  | cons p met ih =>
    rw [List.map_cons, lookV_cons, ih]
    by_cases h : p = k
    · subst h; simp
    · rw [if_neg h]
      by_cases h2 : k ∈ met
      · rw [if_pos h2, if_pos (List.mem_cons_of_mem _ h2)]
      · rw [if_neg h2, if_neg (fun h3 => (List.mem_cons.mp h3).elim (fun e => h e.symm) h2)]
theorem mem_rowAt {rs : List Rw} {n : Nat} (h : n < rs.length) : rowAt rs n ∈ rs ∧ atI (rs.map Rw.d) (n : Nat) = some (rowAt rs n).d := by
  have e : rs[n]? = some (rs[n]'h) := List.getElem?_eq_getElem h
  rw [rowAt_some e]
  exact ⟨List.getElem_mem h, atI_nat (by rw [List.getElem?_map, e]; rfl)⟩
def sp_parted (w : World) (a : Ad) : DSpX := fun ds G R RX => ∃ (M : Mach) (rs : List Rw) (rk : Nat → Nat) (x : D) (i j : Int), ds = [.tup [.tup (rs.map Rw.d), x], .int i, .int j] ∧ M.ok ∧ StoreP M rs rk ∧ rs.length ≤ 900 ∧ (¬ (0 ≤ i ∧ i < (rs.length : Int) ∧ 0 ≤ j ∧ j < (rs.length : Int)) → RX (.ref a.x_NoRow) [] G) ∧ (∀ i' j' : Nat, i = (i' : Nat) → j = (j' : Nat) → i' < rs.length → j' < rs.length → R (optW (partW rs i' j')) G)
local macro_rules | `(tactic| walk_at "x") => `(tactic| first | dsimp only [x_listZip, x_callX, x_raise] | fail)
theorem ok_parted {P : Program} {w : World} {K : PySem.W.Frag} {mg : Str → Option Value} {base : Heap} {a : Ad} (T : Tx w K mg a) : FnX P w K mg base 2 a.f_parted a.fd_parted ["store", "one", "other"] (sp_parted w a) := by
  refine fun_okX T.F_parted sc_parted (fun ds G R RX h => ?_) (fun cdv A outer s H E hr tk => ⟨_, (ssx_cons (sx_of (qs_asg (qv 0) (qg_of (pg_tup rfl (pgs_cons (pg_name (i := 3) sc_parted.nd rfl (.inl rfl)) (pgs_cons (pg_name (i := 4) sc_parted.nd rfl (.inl rfl)) pgs_nil))) (tg_names (is := [3, 4]) (ws := [3, 4]) (by decide) rfl))))
      (ssx_cons (sx_if (tx_of (QW.pt (qw_or (qt_not (qt_chain od_le od_lt qe_int (qv 1) (qe_callB cd_len rfl T.n_len (by decide +kernel) (qa_cons (qv 3) qa_nil)))) (qw_or1 (qt_not (qt_chain od_le od_lt qe_int (qv 2) (qe_callB cd_len rfl T.n_len (by decide +kernel) (qa_cons (qv 3) qa_nil))))))))
      (ssx_one (sx_raise rfl tk PySem.F.excBase_ValueError T.xx_NoRow T.gx_NoRow T.kx_NoRow T.bx_NoRow T.tx_NoRow rfl))
      ssx_nil)
      (ssx_cons (sx_of (qs_set (i := 5) sc_parted.nd rfl (.inl rfl) (qe_newW (w := w) rfl)))
      (ssx_cons (sx_of (qs_set (i := 6) sc_parted.nd rfl (.inl rfl) (qe_lst true (qa_cons (qe_tup (qa_cons (qe_tup qa_nil) (qa_cons (qv 1) (qa_cons (qv 2) qa_nil)))) qa_nil))))
      (ssx_cons (sx_of (qs_set (i := 7) sc_parted.nd rfl (.inl rfl) qe_int))
      (ssx_cons (sx_of (qs_while PassesOwn.leaving (qt_cmp (od_ltE (room100 hr)) (qv 7) (qe_callB cd_len rfl T.n_len (by decide +kernel) (qa_cons (qv 6) qa_nil)) (nomark _))
      (qss_cons (qs_asg (qe_ix xd_ix (qv 6) (qv 7) (fun _ _ => rfl)) (qg_of (pg_tup rfl (pgs_cons (pg_name (i := 8) sc_parted.nd rfl (.inr rfl)) (pgs_cons (pg_name (i := 9) sc_parted.nd rfl (.inl rfl)) (pgs_cons (pg_name (i := 10) sc_parted.nd rfl (.inl rfl)) pgs_nil)))) (tg_names (is := [8, 9, 10]) (ws := [8, 9, 10]) (by decide) rfl)))
      (qss_cons (qs_aug (i := 7) sc_parted.nd rfl (.inl rfl) qe_int od_iadd)
      (qss_cons (qs_if (QW.pt (qw_or (qt_cmp (od_inXW (w := w) rfl (rm11 (room100 hr))) (qe_tup (qa_cons (qv 9) (qa_cons (qv 10) qa_nil))) (qv 5) rfl) (qw_or1 (qt_cmp (od_eq hr.units) (qv 9) (qv 10) (nomark _)))))
      (qss_one qs_continue)
      qss_nil)
      (qss_cons (qs_asg qe_bl (qg_sub (qv 5) (qe_tup (qa_cons (qv 9) (qa_cons (qv 10) qa_nil))) (sd_setW (w := w) rfl (rm11 (room100 hr)))))
      (qss_cons (qs_if (qt_val (qe_call (ok_is_unlike T) (hr.mono (by omega)) rfl T.g_is_unlike T.F_is_unlike.kp T.b_is_unlike (qa_cons (qe_ix xd_ix (qv 3) (qv 9) (fun _ _ => rfl)) (qa_cons (qe_ix xd_ix (qv 3) (qv 10) (fun _ _ => rfl)) qa_nil))))
      (qss_one (qs_ret (qv 8)))
      qss_nil)
      (qss_cons (qs_set (i := 11) sc_parted.nd rfl (.inr rfl) (qe_listZip false rfl rfl T.n_list rfl T.n_zip (qa_cons (qe_call (ok_nexts_of T) (hr.mono (by omega)) rfl T.g_nexts_of T.F_nexts_of.kp T.b_nexts_of (qa_cons (qe_ix xd_ix (qe_ix xd_ix (qv 3) (qv 9) (fun _ _ => rfl)) qe_int (fun _ _ => rfl)) qa_nil)) (qa_cons (qe_call (ok_nexts_of T) (hr.mono (by omega)) rfl T.g_nexts_of T.F_nexts_of.kp T.b_nexts_of (qa_cons (qe_ix xd_ix (qe_ix xd_ix (qv 3) (qv 10) (fun _ _ => rfl)) qe_int (fun _ _ => rfl)) qa_nil)) qa_nil))))
      (qss_one (qs_if (qt_cmp (od_eq hr.units) (qe_ix xd_ix (qe_ix xd_ix (qe_ix xd_ix (qv 3) (qv 9) (fun _ _ => rfl)) qe_int (fun _ _ => rfl)) qe_int (fun _ _ => rfl)) qe_str (nomark _))
      (qss_one (qs_expr (qe_m PySem.F.plainAttrs_list PySem.F.slot_list_insert PySem.F.type_list_insert md_insert (qv 6) (qa_cons (qv 7) (qa_cons (qe_op (od_add false) (qe_tup (qa_cons (qv 8) qa_nil)) (qe_ix xd_ix (qv 11) qe_int (fun _ _ => rfl))) qa_nil)))))
      (qss_one (qs_if (qt_cmp (od_eq hr.units) (qe_ix xd_ix (qe_ix xd_ix (qe_ix xd_ix (qv 3) (qv 9) (fun _ _ => rfl)) qe_int (fun _ _ => rfl)) qe_int (fun _ _ => rfl)) qe_str (nomark _))
      (qss_one (qs_expr (qe_m PySem.F.plainAttrs_list PySem.F.slot_list_extend PySem.F.type_list_extend md_extend (qv 6) (qa_cons (qe_lc true rfl sc_parted.nd (qi_seq (qe_tup (qa_cons qe_bl (qa_cons qe_bl qa_nil)))) (blkOk_by (own := [("truth", 12)]) (N := N_parted) (sc := defScope s_parted) (by decide +kernel)) (fun _ _ _ _ _ => (pg_name (i := 12) sc_parted.nd rfl (.inl rfl))) (tg_name (i := 12) (by decide)) (fun _ _ _ _ _ => qts_nil) (fun _ _ _ _ _ => (qe_op (od_add false) (qe_tup (qa_cons (qe_op (od_add false) (qv 8) (qe_tup (qa_cons (qv 12) qa_nil))) qa_nil)) (qe_ix xd_ix (qv 11) (qe_callTy cd_int rfl T.n_int (by decide +kernel) (qa_cons (qe_not (qv 12)) qa_nil)) (fun _ _ => rfl))))) qa_nil))))
      qss_nil))))))))))))
      (ssx_one (sx_of (qs_ret qe_non))))))))), fun ds G R RX h => ?_⟩)
  · obtain ⟨M, rs, rk, x, i, j, rfl, _⟩ := h; rfl
  · obtain ⟨M, rs, rk, x, zi, zj, rfl, hM, hS, hlen, hbad, hgood⟩ := h
    walk_at "go"
    rw [List.length_map]
    by_cases hv : 0 ≤ zi ∧ zi < (rs.length : Int) ∧ 0 ≤ zj ∧ zj < (rs.length : Int)
    case neg =>
      have hr2 := hbad hv
      by_cases c1 : 0 ≤ zi
      · rw [if_pos c1]
        by_cases c2 : zi < (rs.length : Int)
        · rw [if_pos c2]
          by_cases c3 : 0 ≤ zj
          · rw [if_pos c3, if_neg (fun c4 => hv ⟨c1, c2, c3, c4⟩)]
            exact ⟨_, DL.Sub.refl _, hr2⟩
          · rw [if_neg c3]
            exact ⟨_, DL.Sub.refl _, hr2⟩
        · rw [if_neg c2]
          exact ⟨_, DL.Sub.refl _, hr2⟩
      · rw [if_neg c1]
        exact ⟨_, DL.Sub.refl _, hr2⟩
    obtain ⟨v1, v2, v3, v4⟩ := hv
    obtain ⟨i, rfl⟩ : ∃ i : Nat, zi = (i : Nat) := ⟨zi.toNat, by omega⟩
    obtain ⟨j, rfl⟩ : ∃ j : Nat, zj = (j : Nat) := ⟨zj.toNat, by omega⟩
    rw [if_pos v1, if_pos v2, if_pos v3, if_pos v4]
    have hi : i < rs.length := by omega
    have hj : j < rs.length := by omega
    have h := hgood i j rfl rfl hi hj
    generalize eout : partW rs i j = out at h
    clear hbad hgood v1 v2 v3 v4
    refine kont_go ?_
    refine seq_cut (fun σ' G' => ∃ mq, σ' = [some (.tup [.tup (rs.map Rw.d), x]), some (.int (i : Nat)), some (.int (j : Nat)), some (.tup (rs.map Rw.d)), some x, some (.ref mq), none, none, none, none, none, none, none] ∧ G mq = none ∧ G' = gup G mq (GO.dN w [])) ?_ (fun N1 hN1 => ?_)
    rotate_left
    · walk_at "go"
      rename_i mq nmq
      exact hN1 _ _ ⟨mq, rfl, nmq, rfl⟩
    rintro σ' G2 ⟨mq, rfl, nmq, rfl⟩
    refine seq_cut (fun σ' G' => ∃ wq, σ' = [some (.tup [.tup (rs.map Rw.d), x]), some (.int (i : Nat)), some (.int (j : Nat)), some (.tup (rs.map Rw.d)), some x, some (.ref mq), some (.ref wq), none, none, none, none, none, none] ∧ mq ≠ wq ∧ G wq = none ∧ Sub G G' ∧ G' mq = some (GO.dN w []) ∧ G' wq = some (.lst ([([], i, j)].map itD2))) ?_ (fun N1 hN1 => ?_)
    rotate_left
    · walk_at "go"
      rename_i wq nwq
      have hmw : mq ≠ wq := fr_ne gup_same nwq
      refine hN1 _ _ ⟨wq, rfl, hmw, by rwa [gup_ne hmw.symm] at nwq, (Sub.new nmq).news nwq, by rw [gup_ne hmw]; exact gup_same, gup_same⟩
    rintro σ' G2 ⟨wq, rfl, hmw, nwq, hs2, em2, ew2⟩
    walk_at "w"
    refine kont_go ?_
    refine seq_cut (fun σ' G' => out = none ∧ Sub G G') ?_ (fun N1 hN1 => ?_)
    · rintro σ' G' ⟨rfl, hs⟩
      walk_at "w"
      exact rt_sub hs h
    rw [x_while]
    refine ⟨_, wh_go (fun m σ' G' => ∃ (met : List (Nat × Nat)) (q P : List Itm) (x8 x9 x10 x11 : Option D), σ' = [some (.tup [.tup (rs.map Rw.d), x]), some (.int (i : Nat)), some (.int (j : Nat)), some (.tup (rs.map Rw.d)), some x, some (.ref mq), some (.ref wq), some (.int (P.length : Nat)), x8, x9, x10, x11, none] ∧ Sub G G' ∧ G' mq = some (GO.dN w (encV pairD D.bl (met.map fun p => (p, true)))) ∧ G' wq = some (.lst ((P ++ q).map itD2)) ∧ partF rs m met q = out ∧ 3 * (rs.length * rs.length - met.length) + q.length ≤ m ∧ MetIn rs met ∧ (∀ a ∈ q, (a.2.1 < rs.length ∧ a.2.2 < rs.length) ∧ a.1.length ≤ met.length) ∧ (P ++ q).length ≤ 2 * met.length + 1) ?turn (3 * (rs.length * rs.length) + 1) _ _ ⟨[], [([], i, j)], [], none, none, none, none, rfl, hs2, em2, ew2, eout, by simp, ⟨List.nodup_nil, fun p h => by cases h⟩, fun a ha => by rw [List.mem_singleton] at ha; rw [ha]; exact ⟨⟨hi, hj⟩, Nat.zero_le _⟩, by simp⟩⟩
    clear eout em2 ew2 hs2
    rintro m σ' G' ⟨met, q, P, x8, x9, x10, x11, rfl, hs, em, ew, hout, hmu, hmi, hin, hlq⟩ N hN
    have hN8 : rs.length * rs.length ≤ 810000 := Nat.mul_le_mul hlen hlen
    have hmlen := hmi.len
    cases q with
    | nil =>
      rw [List.append_nil] at ew
      walk_at "go"
      rw [len_ref ew, List.length_map, ltE_ii]
      rw [decide_eq_false (by omega)]
      walk_at "go"
      refine hN1 _ _ ⟨?_, hs⟩
      rw [← hout]
      cases m <;> rfl
    | cons it q =>
      obtain ⟨wd, a, b⟩ := it
      rw [List.length_cons] at hmu
      obtain ⟨m, rfl⟩ : ∃ k, m = k + 1 := ⟨m - 1, by omega⟩
      rw [partF] at hout
      obtain ⟨hab, hwl⟩ := hin _ List.mem_cons_self
      dsimp only at hab hwl
      obtain ⟨ra, ira⟩ := mem_rowAt hab.1
      obtain ⟨rb, irb⟩ := mem_rowAt hab.2
      have ixw : atI ((P ++ (wd, a, b) :: q).map itD2) (P.length : Nat) = some (itD2 (wd, a, b)) := atI_nat (by rw [List.getElem?_map, List.getElem?_append_right (Nat.le_refl _), Nat.sub_self]; rfl)
      walk_at "go"
      rw [len_ref ew, List.length_map, ltE_ii, decide_eq_true (by rw [List.length_append, List.length_cons]; omega)]
      rw [isB_bl]
      dsimp only
      rw [atL_at ew, ixw, isN_some, show itD2 (wd, a, b) = .tup [wD wd, .int (a : Nat), .int (b : Nat)] from rfl]
      walk_at "go"
      rw [show (P.length : Int) + 1 = (((P ++ [(wd, a, b)]).length : Nat) : Int) by rw [List.length_append, List.length_singleton]; rfl]
      have eP : P ++ (wd, a, b) :: q = (P ++ [(wd, a, b)]) ++ q := by rw [List.append_assoc]; rfl
      rw [eP] at ew hlq ixw
      generalize hP2 : P ++ [(wd, a, b)] = P2 at ew hlq ixw ⊢
      have hskip : (a, b) ∈ met ∨ a = b → N [some (.tup [.tup (rs.map Rw.d), x]), some (.int (i : Nat)), some (.int (j : Nat)), some (.tup (rs.map Rw.d)), some x, some (.ref mq), some (.ref wq), some (.int (P2.length : Nat)), some (wD wd), some (.int (a : Nat)), some (.int (b : Nat)), x11, none] G' := fun hm => by
        rw [if_pos hm] at hout
        exact hN m _ _ rfl ⟨met, q, P2, _, _, _, _, rfl, hs, em, ew, hout, by omega, hmi, fun y hy => hin y (List.mem_cons_of_mem _ hy), hlq⟩
      rw [show D.tup [D.int (a : Nat), D.int (b : Nat)] = pairD (a, b) from rfl]
      refine inV_go (d := pairD) (v := D.bl) eqD_pair em (pair_ky _).1 (pair_ky _).2 ?_
      rw [look_met]
      by_cases hm : (a, b) ∈ met
      · rw [if_pos hm, show ((some true).isSome == true) = true from rfl, isB_bl]
        walk_at "go"
        exact hskip (.inl hm)
      rw [if_neg hm, show ((none : Option Bool).isSome == true) = false from rfl, isB_bl]
      by_cases hne : a = b
      · walk_at "go"
        rw [if_pos (by omega)]
        exact hskip (.inr hne)
      dsimp only [br_f]
      rw [if_neg (by omega)]
      refine kont_go ?_
      clear hskip
      rw [if_neg (fun z => z.elim hm hne)] at hout
      have hmi2 := hmi.snoc hab.1 hab.2 hm
      have hml2 := hmi2.len
      rw [List.length_append, List.length_singleton] at hml2
      refine seq_cut (fun σ2 G2 => σ2 = [some (.tup [.tup (rs.map Rw.d), x]), some (.int (i : Nat)), some (.int (j : Nat)), some (.tup (rs.map Rw.d)), some x, some (.ref mq), some (.ref wq), some (.int (P2.length : Nat)), some (wD wd), some (.int (a : Nat)), some (.int (b : Nat)), x11, none] ∧ Sub G G2 ∧ G2 mq = some (GO.dN w (encV pairD D.bl ((met ++ [(a, b)]).map fun p => (p, true)))) ∧ G2 wq = some (.lst ((P2 ++ q).map itD2))) ?_ (fun N3 hN3 => ?_)
      rotate_left
      · walk_at "go"
        rw [show D.tup [D.int (a : Nat), D.int (b : Nat)] = pairD (a, b) from rfl]
        refine setV_big (d := pairD) (v := D.bl) eqD_pair (z := true) em (pair_ky _).1 (pair_ky _).2 (by rw [List.length_map]; omega) (by rw [List.map_map]; simpa using hm) ?_
        refine hN3 _ _ ⟨rfl, hs.put nmq, by rw [gup_same, List.map_append]; rfl, by rw [gup_ne hmw.symm]; exact ew⟩
      rintro σ2 G3 ⟨rfl, hs3, em3, ew3⟩
      refine seq_cut (fun σ2 G2 => σ2 = [some (.tup [.tup (rs.map Rw.d), x]), some (.int (i : Nat)), some (.int (j : Nat)), some (.tup (rs.map Rw.d)), some x, some (.ref mq), some (.ref wq), some (.int (P2.length : Nat)), some (wD wd), some (.int (a : Nat)), some (.int (b : Nat)), x11, none] ∧ G2 = G3 ∧ unlikeR (rowAt rs a) (rowAt rs b) = false) ?_ (fun N3 hN3 => ?_)
      rotate_left
      · walk_at "go"
        rw [ira, isN_some, irb, isN_some]
        refine go_unlike hM (hS.row _ ra) (hS.row _ rb) ?_
        cases hu : unlikeR (rowAt rs a) (rowAt rs b) with
        | true =>
          rw [if_pos hu] at hout
          walk_at "w"
          rw [← hout] at h
          exact rt_sub hs3 h
        | false =>
          walk_at "go"
          exact hN3 _ _ ⟨rfl, rfl, hu⟩
      rintro σ2 G3 ⟨rfl, rfl, hu⟩
      rw [if_neg (by rw [hu]; exact Bool.false_ne_true)] at hout
      have hal : (rowAt rs a).nx.alike (rowAt rs b).nx = true := by
        unfold unlikeR at hu
        simp only [Bool.not_eq_false', Bool.and_eq_true] at hu
        exact hu.2
      have hxa := hS.falls.nx a hab.1
      have hxb := hS.falls.nx b hab.2
      have hl8 : (P2 ++ q).length + 2 ≤ sizeLine := by rw [sizeLine_eq]; omega
      have eda : (rowAt rs a).d = .tup [.tup ((rowAt rs a).os.map Ord.d), (rowAt rs a).nx.d] := rfl
      have edb : (rowAt rs b).d = .tup [.tup ((rowAt rs b).os.map Ord.d), (rowAt rs b).nx.d] := rfl
      refine seq_cut (fun σ2 G2 => σ2 = [some (.tup [.tup (rs.map Rw.d), x]), some (.int (i : Nat)), some (.int (j : Nat)), some (.tup (rs.map Rw.d)), some x, some (.ref mq), some (.ref wq), some (.int (P2.length : Nat)), some (wD wd), some (.int (a : Nat)), some (.int (b : Nat)), some (.lst (zipD ((rowAt rs a).nx.nexts.map fun n : Nat => .int (n : Nat)) ((rowAt rs b).nx.nexts.map fun n : Nat => .int (n : Nat)))), none] ∧ G2 = G3) ?_ (fun N3 hN3 => ?_)
      rotate_left
      · walk_at "go"
        rw [ira, isN_some, eda]
        walk_at "go"
        refine go_nexts _ ?_
        rw [irb, isN_some, edb]
        walk_at "go"
        refine go_nexts _ ?_
        dsimp only [lstOf]
        exact hN3 _ _ ⟨rfl, rfl⟩
      rintro σ2 G3 ⟨rfl, rfl⟩
      have e9 : (met ++ [(a, b)]).length = met.length + 1 := by rw [List.length_append, List.length_singleton]
      have hinq : ∀ y ∈ q, (y.2.1 < rs.length ∧ y.2.2 < rs.length) ∧ y.1.length ≤ (met ++ [(a, b)]).length := fun y hy => by
        have := hin y (List.mem_cons_of_mem _ hy)
        exact ⟨this.1, by rw [e9]; have := this.2; omega⟩
      have hlpq : (P2 ++ q).length = P2.length + q.length := List.length_append
      cases ea : (rowAt rs a).nx with
      | fin =>
        cases eb : (rowAt rs b).nx with
        | fin =>
          rw [ea, eb] at hout
          walk_at "go"
          rw [ira, isN_some, eda, ea]
          unfold Nx.d
          walk_at "go"
          exact hN m _ _ rfl ⟨met ++ [(a, b)], q, P2, _, _, _, _, rfl, hs3, em3, ew3, hout, by rw [e9]; omega, hmi2, hinq, by rw [e9]; omega⟩
        | _ => rw [ea, eb] at hal; cases hal
      | go u =>
        cases eb : (rowAt rs b).nx with
        | go v =>
          rw [ea, eb] at hout
          walk_at "go"
          rw [ira, isN_some, eda, ea]
          unfold Nx.d
          walk_at "go"
          rw [ea] at hxa
          rw [eb] at hxb
          refine ⟨mty_at ew3, by decide, ?_⟩
          rw [show zipD ((Nx.go u).nexts.map fun n : Nat => D.int (n : Nat)) ((Nx.go v).nexts.map fun n : Nat => D.int (n : Nat)) = [.tup [.int (u : Nat), .int (v : Nat)]] from rfl]
          walk_at "go"
          show atL (G3 wq) _
          rw [atL_at ew3]
          refine ⟨by rw [List.length_map]; omega, by omega, by omega, ?_⟩
          refine hN m _ _ rfl ⟨met ++ [(a, b)], (wd, u, v) :: q, P2, _, _, _, _, rfl, hs3.put nwq, by rw [gup_ne hmw]; exact em3, ?_, hout, by rw [e9, List.length_cons]; omega, hmi2, fun y hy => ?_, by rw [e9, List.length_append, List.length_cons]; omega⟩
          · rw [gup_same, Int.toNat_natCast, List.map_append, List.map_append, List.take_left' (by rw [List.length_map]), List.drop_left' (by rw [List.length_map]), List.append_assoc]
            rfl
          · rcases List.mem_cons.mp hy with rfl | hy
            · exact ⟨⟨(hxa u (by simp [Nx.nexts])).1, (hxb v (by simp [Nx.nexts])).1⟩, by rw [e9]; show wd.length ≤ _; omega⟩
            · exact hinq y hy
        | _ => rw [ea, eb] at hal; cases hal
      | test p u u' =>
        cases eb : (rowAt rs b).nx with
        | test p' v v' =>
          rw [ea, eb] at hout
          walk_at "go"
          rw [ira, isN_some, eda, ea]
          unfold Nx.d
          walk_at "go"
          rw [ea] at hxa
          rw [eb] at hxb
          refine ⟨mty_at ew3, ?_⟩
          rw [show zipD ((Nx.test p u u').nexts.map fun n : Nat => D.int (n : Nat)) ((Nx.test p' v v').nexts.map fun n : Nat => D.int (n : Nat)) = [.tup [.int (u : Nat), .int (v : Nat)], .tup [.int (u' : Nat), .int (v' : Nat)]] from rfl]
          have hwz : (wd.map D.bl).length + 1 ≤ sizeLine := by rw [List.length_map, sizeLine_eq]; omega
          unfold wD
          walk_at "go"
          rename_i c nc
          have hwc : wq ≠ c := fr_ne ew3 nc
          have hmc : mq ≠ c := fr_ne em3 nc
          refine ext_go (by rw [gup_ne hwc]; exact ew3) gup_same (by rw [List.length_map]; simp only [List.length_cons, List.length_nil]; omega) ?_
          refine hN m _ _ rfl ⟨met ++ [(a, b)], q ++ [(wd ++ [false], u', v'), (wd ++ [true], u, v)], P2, _, _, _, _, rfl, (hs3.news nc).put nwq, by rw [gup_ne hmw, gup_ne hmc]; exact em3, ?_, hout, by rw [e9, List.length_append]; simp only [List.length_cons, List.length_nil]; omega, hmi2, fun y hy => ?_, by rw [e9, ← List.append_assoc, List.length_append]; simp only [List.length_cons, List.length_nil]; omega⟩
          · rw [gup_same, ← List.append_assoc P2 q, List.map_append (l₁ := P2 ++ q)]
            simp only [List.map_cons, List.map_nil, itD2, wD, List.map_append]
          · rcases List.mem_append.mp hy with hy | hy
            · exact hinq y hy
            · have hu1 := (hxa u (by simp [Nx.nexts])).1
              have hu2 := (hxa u' (by simp [Nx.nexts])).1
              have hv1 := (hxb v (by simp [Nx.nexts])).1
              have hv2 := (hxb v' (by simp [Nx.nexts])).1
              simp only [List.mem_cons, List.not_mem_nil, or_false] at hy
              rcases hy with rfl | rfl
              · exact ⟨⟨hu2, hv2⟩, by rw [e9, List.length_append, List.length_singleton]; omega⟩
              · exact ⟨⟨hu1, hv1⟩, by rw [e9, List.length_append, List.length_singleton]; omega⟩
        | _ => rw [ea, eb] at hal; cases hal
end K52


set_option Elab.async false
set_option linter.all false
set_option maxRecDepth 100000
set_option maxHeartbeats 4000000
set_option autoImplicit false
namespace K52
open PySem PySem.Spec PyProof.Rows L2 DL
local macro_rules | `(tactic| walk_at "d") => `(tactic| dsimp only [dSeq, dNext, dIfS, dRet, dRetN, dAsg, dName, dVar, dC, dOp, dUn, dChain, dB, dAnd, dOr, dNot, dAndV, dOrV, dNotV, dIf, dNil, dCons, dTup, dLst, newL, dCallB, dCall, dCallK, dDrop, dAug, dAugS, dSub, dM, dM0, dSlice, dNoPart, dPart, dLc, dYes, dFor, dIter, dRng1, dEnum, dZipM, srcD, dStar, dInK, dIxK, dLenSet, dRev,
  startD, wipeD, setAll, dNames, List.map_cons, List.map_nil, List.length_cons, List.length_nil, List.replicate, List.cons_append, List.nil_append, List.append_nil, List.getElem?_cons_zero, List.getElem?_cons_succ, List.set_cons_zero, List.set_cons_succ, List.map, Nat.zero_add, Nat.reduceAdd, Nat.reduceSub, Nat.sub_self, Nat.succ_sub_succ_eq_sub])
local macro_rules | `(tactic| walk_at "o") => `(tactic| simp only [dAdd_ii, dAdd_ss, dAdd_tt, dAdd_ll, dMinus_ii, dMul_ii, dMod_ii, dFdiv_ii, dPow_ii, dShl_ii, dNeg_i, dIadd_ii, dLt_ii, dLe_ii, dGt_ii, dGe_ii, dEq_ii, dNe_ii, dEq_ss, dNe_ss, dEq_bb, dNe_bb, dIs_n, dIsNot_n, dMax2_ii, dMin2_ii, dTuple_t, dTuple_l, dList_t, dList_l, dIx_t, dIx_l, dIx_s, dSl_t, dSl_l, dSl_s, newL_f, len_tup, len_lst])
local macro_rules | `(tactic| walk_at "w") => `(tactic| dsimp only [x_var, x_c, x_op, x_un, x_b, x_and, x_or, x_not, x_chain, x_andV, x_orV, x_notV, x_if, x_nil, x_cons, x_tup, x_lst0, x_lst1, x_callB, x_call, x_callK, x_next, x_seq, x_break, x_cont, x_drop, x_ret, x_ifS, x_asg, x_name, x_names, x_sub, x_aug, x_augS, x_for, x_lc0, x_lc1, x_yes, x_noPart, x_part, x_slice, x_iter, it_t, it_l, it_n, it_s, it_r, x_rng1, x_enum, x_rev, x_m, x_m0, x_mX, x_zip, x_star_t, x_star_l, x_lenSet, x_forgo0, x_lcgo0, x_while, x_par, x_sortK,
  br_t, br_f, isB_bl, isI_int, isN_some, slo_some, atL_lst, ix_t, ix_l, ix_n,
  dAdd_ii, dAdd_ss, dAdd_tt, dAdd_ll, dMinus_ii, dMul_ii, dMod_ii, dFdiv_ii, dPow_ii, dShl_ii, dNeg_i, dIadd_ii, dLt_ii, dLe_ii, dGt_ii, dGe_ii, ltE_ii, ltE_ss, srcD, isi_i, isi_s, isi_b, isi_n, isi_t, isi_nt, isi_l, isi2_i, isi2_s, isi2_b, isi2_n, isi2_t, isi2_nt, isi2_l, inon_n, inon_i, inon_s, inon_b, inon_t, inon_l, inon_r, dEq_ii, dNe_ii, dEq_ss, dNe_ss, dEq_bb, dNe_bb, dIs_n, dIsNot_n, dMax2_ii, dMin2_ii, dTuple_t, dTuple_l, dList_t, dList_l, dSl_t, dSl_l, dSl_s, newL_f, newL_t, app_r, int_b, int_i, strI_i, strX_i, strX_s,
  startD, wipeD, setAll, permL, List.filterMap, List.map_cons, List.map_nil, List.length_cons, List.length_nil, List.replicate, List.cons_append, List.nil_append, List.append_nil, List.getElem?_cons_zero, List.getElem?_cons_succ, List.set_cons_zero, List.set_cons_succ, List.map, Nat.zero_add, Nat.reduceAdd, Nat.reduceSub, Nat.sub_self, Nat.succ_sub_succ_eq_sub])
local macro_rules | `(tactic| walk_at "v") => `(tactic| simp only [ofString_inj, String.reduceEq, at_0, at_1, at_2, at_3, at_4, at_5, isN_some, isBB_bl, isB_bl, br_t, br_f, br_not, br_and, br_or, br_dec, ix_r, len_tup, len_lst, len_nt, ltE_key, gup_gup, gup_same, starD_one, cut1, cut2, kt1, kt2, kt3, kt4, kt5, kt6, isTy, String.reduceBEq, Bool.or_false, Bool.false_or, Bool.true_or, Bool.or_true, Bool.and_false, Bool.false_and, Bool.true_and, Bool.and_true, Bool.not_true, Bool.not_false, decide_true, decide_false, eq_self_iff_true, Bool.false_eq_true, Int.reduceAdd, Int.add_zero, if_true, if_false, true_and, and_true])
local macro_rules | `(tactic| walk_at "side") => `(tactic| first | with_reducible assumption | omega | exact mty_up | exact True.intro | (simp only [List.mem_cons, ofString_inj, String.reduceEq, true_or, or_true, List.length_map]; done) | with_reducible exact (rfl : (_ : Nat) = _) | exact (rfl : (_ : Option String) = _) | (refine small_line ?_; omega) | (walk_at "ll"; first | omega | (refine small_line ?_; omega) | fail) | (exact log_small (by omega)) | fail)
local macro_rules | `(tactic| walk_at "x") => `(tactic| fail)
local macro_rules | `(tactic| walk_at "go") => `(tactic| repeat' (first | dsimp only [x_var, x_c, x_op, x_un, x_b, x_and, x_or, x_not, x_chain, x_andV, x_orV, x_notV, x_if, x_nil, x_cons, x_tup, x_lst0, x_lst1, x_callB, x_call, x_callK, x_next, x_seq, x_break, x_cont, x_drop, x_ret, x_ifS, x_asg, x_name, x_names, x_sub, x_aug, x_augS, x_for, x_lc0, x_lc1, x_yes, x_noPart, x_part, x_slice, x_iter, it_t, it_l, it_n, it_s, it_r, x_rng1, x_enum, x_rev, x_m, x_m0, x_mX, x_zip, x_star_t, x_star_l, x_lenSet, x_forgo0, x_lcgo0, x_while, x_par, x_sortK, br_t, br_f, isB_bl, isI_int, isN_some, slo_some, atL_lst, ix_t, ix_l, ix_n, dAdd_ii, dAdd_ss, dAdd_tt, dAdd_ll, dMinus_ii, dMul_ii, dMod_ii, dFdiv_ii, dPow_ii, dShl_ii, dNeg_i, dIadd_ii, dLt_ii, dLe_ii, dGt_ii, dGe_ii, ltE_ii, ltE_ss, srcD, isi_i, isi_s, isi_b, isi_n, isi_t, isi_nt, isi_l, isi2_i, isi2_s, isi2_b, isi2_n, isi2_t, isi2_nt, isi2_l, inon_n, inon_i, inon_s, inon_b, inon_t, inon_l, inon_r, dEq_ii, dNe_ii, dEq_ss, dNe_ss, dEq_bb, dNe_bb, dIs_n, dIsNot_n, dMax2_ii, dMin2_ii, dTuple_t, dTuple_l, dList_t, dList_l, dSl_t, dSl_l, dSl_s, newL_f, newL_t, app_r, int_b, int_i, strI_i, strX_i, strX_s, startD, wipeD, setAll, permL, List.filterMap, List.map_cons, List.map_nil, List.length_cons, List.length_nil, List.replicate, List.cons_append, List.nil_append, List.append_nil, List.getElem?_cons_zero, List.getElem?_cons_succ, List.set_cons_zero, List.set_cons_succ, List.map, Nat.zero_add, Nat.reduceAdd, Nat.reduceSub, Nat.sub_self, Nat.succ_sub_succ_eq_sub] | simp only [ofString_inj, String.reduceEq, at_0, at_1, at_2, at_3, at_4, at_5, isN_some, isBB_bl, isB_bl, br_t, br_f, br_not, br_and, br_or, br_dec, ix_r, len_tup, len_lst, len_nt, ltE_key, gup_gup, gup_same, starD_one, cut1, cut2, kt1, kt2, kt3, kt4, kt5, kt6, isTy, String.reduceBEq, Bool.or_false, Bool.false_or, Bool.true_or, Bool.or_true, Bool.and_false, Bool.false_and, Bool.true_and, Bool.and_true, Bool.not_true, Bool.not_false, decide_true, decide_false, eq_self_iff_true, Bool.false_eq_true, Int.reduceAdd, Int.add_zero, if_true, if_false, true_and, and_true] | walk_at "x" | with_reducible refine kont_go ?_ | with_reducible refine rt_sub (by assumption) ?_ | with_reducible refine rt_lst (by assumption) ?_ | with_reducible refine rt_drop (by assumption) ?_ | with_reducible refine rt_keep (by assumption) (by assumption) ?_ | with_reducible refine rt_same ?_ | (refine fun (p : Addr) (_ : _ = none) => ?_) | refine join_gor gup_same rfl (by walk_at "side") ?_ | with_reducible refine lc_cons ?_ | with_reducible refine for_cons ?_ | refine join_go rfl (by walk_at "side") ?_ | refine And.intro (by first | with_reducible assumption | omega | exact mty_up | exact True.intro | (simp only [List.mem_cons, ofString_inj, String.reduceEq, true_or, or_true, List.length_map]; done) | with_reducible exact (rfl : (_ : Nat) = _) | exact (rfl : (_ : Option String) = _) | (refine small_line ?_; omega) | (walk_at "ll"; first | omega | (refine small_line ?_; omega) | fail) | (exact log_small (by omega)) | fail) ?_ | fail))
local macro_rules | `(tactic| walk_at "ll") => `(tactic| simp only [List.length_map, List.length_append, List.length_cons, List.length_nil, List.map_cons, List.map_nil, List.sum_cons, List.sum_nil, len_app, rng_length, ll_0, ll_1, ll_2, ll_3, ll_4, ll_5, ll_6, ll_7, ll_8, ll_9, ll_10, ll_11, ll_12, ll_13, ll_14, ll_15, ll_16, ll_17, ll_18, ll_19, ll_20, ll_21, ll_22, ll_23, ll_24, ll_25, ll_26, ll_27, ll_28, ll_29, ll_30, ll_31, ll_32, ll_33, ll_34, ll_35, ll_36, ll_37])
/-! ### a store drawn: a program's rows by other numbers -/
theorem idx_atN {α : Type} [DecidableEq α] {l : List α} {a : α} (h : a ∈ l) : l[l.idxOf a]? = some a := by
  rw [List.getElem?_eq_getElem (List.idxOf_lt_length_of_mem h)]
  simp
def numAt (nums : List Nat) (m : Nat) : Nat := (nums[m]?).getD 0
def Nx.ren (f : Nat → Nat) : Nx → Nx
  | .fin => .fin | .go n => .go (f n) | .test p i j => .test p (f i) (f j)
def sp__law_put : DSp := fun ds G R => ∃ (x : Nx) (nums : List Nat), ds = [x.d, .lst (nums.map fun n : Nat => D.int (n : Nat))] ∧ (∀ m ∈ x.nexts, m < nums.length) ∧ R (x.ren (numAt nums)).d G
local macro_rules | `(tactic| walk_at "x") => `(tactic| fail)
theorem ok__law_put {P : Program} {w : World} {K : PySem.W.Frag} {mg : Str → Option Value} {base : Heap} {a : Ad} (T : Tx w K mg a) : FnD P w K mg base 1 a.f__law_put a.fd__law_put ["onward", "numbers"] sp__law_put := by
  refine fun_okD T.F__law_put sc__law_put (fun ds G R h => ?_) (fun cdv A outer s H hr => ⟨_, (qss_one (qs_ret (qe_callTy cd_tuple rfl T.n_tuple (by decide +kernel) (qa_cons (qe_lc false rfl sc__law_put.nd (qi_seq (qv 0)) (blkOk_by (own := [("one", 2)]) (N := N__law_put) (sc := defScope s__law_put) (by decide +kernel)) (fun _ _ _ _ _ => (pg_name (i := 2) sc__law_put.nd rfl (.inl rfl))) (tg_name (i := 2) (by decide)) (fun _ _ _ _ _ => qts_nil) (fun _ _ _ _ _ => (qe_ifExp (qt_val (qe_callB cd_isiX rfl T.n_isinstance (by decide +kernel) (qa_cons (qv 2) (qa_cons (qe_ty (n := "int") rfl T.n_int (by decide +kernel)) qa_nil)))) (qe_ix xd_ix (qv 1) (qv 2) (fun _ _ => rfl)) (qv 2)))) qa_nil)))), fun ds G R h => ?_⟩)
  · obtain ⟨x, nums, rfl, _⟩ := h; rfl
  · obtain ⟨x, nums, rfl, hx, h⟩ := h
    have hat : ∀ m, m < nums.length → atI (nums.map fun n : Nat => D.int (n : Nat)) (m : Nat) = some (.int (numAt nums m : Nat)) := fun m hm => atI_nat (by unfold numAt; rw [List.getElem?_map, List.getElem?_eq_getElem hm]; rfl)
    cases x with
    | fin => unfold Nx.d; walk_at "go"; exact h
    | go n =>
      unfold Nx.d
      walk_at "go"
      rw [hat n (hx n (by simp [Nx.nexts])), isN_some]
      walk_at "go"
      exact h
    | test p i j =>
      obtain ⟨pk, hpk⟩ : ∃ ds, p.d = .tup ds := by cases p <;> exact ⟨_, rfl⟩
      rw [show (Nx.test p i j).d = .tup [.str "test", p.d, .int (i : Nat), .int (j : Nat)] from rfl, hpk]
      walk_at "go"
      rw [hat i (hx i (by simp [Nx.nexts])), isN_some]
      walk_at "go"
      rw [hat j (hx j (by simp [Nx.nexts])), isN_some]
      walk_at "go"
      rw [show ((Nx.test p i j).ren (numAt nums)).d = .tup [.str "test", p.d, .int (numAt nums i : Nat), .int (numAt nums j : Nat)] from rfl, hpk] at h
      exact h
theorem go_put {x : Nx} {nums : List Nat} {G : Gp} {R : DK} (hx : ∀ m ∈ x.nexts, m < nums.length) (k : R (x.ren (numAt nums)).d G) : sp__law_put [x.d, .lst (nums.map fun n : Nat => D.int (n : Nat))] G R := ⟨x, nums, rfl, hx, k⟩
/-- numbers in any order -/
structure PermN (n : Nat) (nums : List Nat) : Prop where
  len : nums.length = n
  nd : nums.Nodup
  lt : ∀ m ∈ nums, m < n
theorem PermN.has {n : Nat} {nums : List Nat} (h : PermN n nums) {i : Nat} (hi : i < n) : i ∈ nums := by
  have hp := perm_of_sub (a := nums) (b := List.range n) h.nd (fun x hx => List.mem_range.mpr (h.lt x hx)) (by rw [List.length_range, h.len]; exact Nat.le_refl _)
  exact hp.mem_iff.mp (List.mem_range.mpr hi)
theorem PermN.at {n : Nat} {nums : List Nat} (h : PermN n nums) {m : Nat} (hm : m < n) : numAt nums m < n ∧ nums.idxOf (numAt nums m) = m := by
  have hl : m < nums.length := by rw [h.len]; exact hm
  have e : numAt nums m = nums[m] := by unfold numAt; rw [List.getElem?_eq_getElem hl]; rfl
  rw [e]
  exact ⟨h.lt _ (List.getElem_mem hl), h.nd.idxOf_getElem m hl⟩
def laidR (pr : List Rw) (nums : List Nat) (i : Nat) : Rw := match pr[nums.idxOf i]? with | some r => ⟨r.os, r.nx.ren (numAt nums)⟩ | none => ⟨[], .fin⟩
def laidS (pr : List Rw) (nums : List Nat) : List Rw := (List.range pr.length).map (laidR pr nums)
def fillD (pr : List Rw) (nums : List Nat) (k : Nat) (i : Nat) : D := if nums.idxOf i < k then (laidR pr nums i).d else .non
theorem fill_set {pr : List Rw} {nums : List Nat} (h : PermN pr.length nums) {k : Nat} (hk : k < pr.length) : ((List.range pr.length).map (fillD pr nums k)).set (numAt nums k) (laidR pr nums (numAt nums k)).d = (List.range pr.length).map (fillD pr nums (k + 1)) := by
  refine List.ext_getElem? fun i => ?_
  obtain ⟨h1, h2⟩ := h.at hk
  by_cases hi : i < pr.length
  · rw [List.getElem?_map, List.getElem?_range hi, List.getElem?_set]
    by_cases e : numAt nums k = i
    · subst e
      rw [if_pos rfl, if_pos (by rw [List.length_map, List.length_range]; exact hi)]
      simp only [Option.map_some, fillD, h2]
      rw [if_pos (Nat.lt_succ_self k)]
    · rw [if_neg e, List.getElem?_map, List.getElem?_range hi]
      simp only [Option.map_some, fillD]
      have : nums.idxOf i ≠ k := fun z => e (by
        have h3 := idx_atN (h.has hi)
        rw [z] at h3
        unfold numAt
        rw [h3]; rfl)
      by_cases c : nums.idxOf i < k
      · rw [if_pos c, if_pos (by omega)]
      · rw [if_neg c, if_neg (by omega)]
  · rw [List.getElem?_eq_none (by rw [List.length_set, List.length_map, List.length_range]; omega), List.getElem?_eq_none (by rw [List.length_map, List.length_range]; omega)]
theorem fill_done {pr : List Rw} {nums : List Nat} (h : PermN pr.length nums) : (List.range pr.length).map (fillD pr nums pr.length) = (laidS pr nums).map Rw.d := by
  unfold laidS
  rw [List.map_map]
  refine List.map_congr_left fun i hi => ?_
  have hi := List.mem_range.mp hi
  have := List.idxOf_lt_length_of_mem (h.has hi)
  unfold fillD
  rw [if_pos (by rw [← h.len]; exact this)]
  rfl
theorem laid_store {M : Mach} {pr : List Rw} (hP : ProgOk M pr) {nums : List Nat} (h : PermN pr.length nums) : StoreP M (laidS pr nums) (fun i => pr.length - 1 - nums.idxOf i) := by
  have hlen : (laidS pr nums).length = pr.length := by unfold laidS; rw [List.length_map, List.length_range]
  have hrow : ∀ i, i < pr.length → ∃ r, pr[nums.idxOf i]? = some r ∧ laidR pr nums i = ⟨r.os, r.nx.ren (numAt nums)⟩ ∧ nums.idxOf i < pr.length := fun i hi => by
    have h2 : nums.idxOf i < pr.length := by rw [← h.len]; exact List.idxOf_lt_length_of_mem (h.has hi)
    refine ⟨pr[nums.idxOf i], List.getElem?_eq_getElem h2, ?_, h2⟩
    unfold laidR
    rw [List.getElem?_eq_getElem h2]
  refine ⟨fun r hr => ?_, ⟨fun i hi m hm => ?_⟩⟩
  · unfold laidS at hr
    obtain ⟨i, hi, rfl⟩ := List.mem_map.mp hr
    obtain ⟨r, h1, h2, _⟩ := hrow i (List.mem_range.mp hi)
    have h3 := hP.rows _ r h1
    rw [h2]
    refine ⟨h3.1.ok.1, ?_⟩
    cases hx : r.nx with
    | test p a b => rw [hx] at h3; exact h3.2.1
    | _ => trivial
  · rw [hlen] at hi ⊢
    obtain ⟨r, h1, h2, h4⟩ := hrow i hi
    have e : rowAt (laidS pr nums) i = laidR pr nums i := rowAt_some (by unfold laidS; rw [List.getElem?_map, List.getElem?_range hi]; rfl)
    rw [e, h2] at hm
    have h3 := (hP.rows _ r h1).2
    have key : ∀ j, j ∈ r.nx.nexts → nums.idxOf i < j ∧ j < pr.length := fun j hj => by
      cases hx : r.nx with
      | fin => rw [hx] at hj; cases hj
      | go n => rw [hx] at hj h3; rw [List.mem_singleton.mp hj]; exact h3
      | test p a b =>
        rw [hx] at hj h3
        obtain ⟨_, a1, a2, a3, a4⟩ : p.ok M ∧ nums.idxOf i < a ∧ a < pr.length ∧ nums.idxOf i < b ∧ b < pr.length := h3
        simp only [Nx.nexts, List.mem_cons, List.not_mem_nil, or_false] at hj
        rcases hj with rfl | rfl
        · exact ⟨a1, a2⟩
        · exact ⟨a3, a4⟩
    have hm2 : ∃ j ∈ r.nx.nexts, m = numAt nums j := by
      cases hx : r.nx with
      | fin => rw [hx] at hm; cases hm
      | go n => rw [hx] at hm; exact ⟨n, by simp [Nx.nexts], List.mem_singleton.mp hm⟩
      | test p a b =>
        rw [hx] at hm
        simp only [Nx.ren, Nx.nexts, List.mem_cons, List.not_mem_nil, or_false] at hm
        rcases hm with rfl | rfl
        · exact ⟨a, by simp [Nx.nexts], rfl⟩
        · exact ⟨b, by simp [Nx.nexts], rfl⟩
    obtain ⟨j, hj, rfl⟩ := hm2
    obtain ⟨k1, k2⟩ := key j hj
    obtain ⟨k3, k4⟩ := h.at k2
    exact ⟨k3, by rw [k4]; omega⟩
def sp__law_laid : DSp := fun ds G R => ∃ s M n o most, ds = [.ref s, Mach.d M, .int (most : Nat)] ∧ M.ok ∧ 1 ≤ most ∧ most ≤ 300 ∧ G s = some o ∧ BagO n o ∧ n ≤ 600000 ∧ ∀ (rs : List Rw) (rk : Nat → Nat) (x : D) o', StoreP M rs rk → 0 < rs.length → rs.length ≤ most → (∀ i, rk i < rs.length) → BagO (n + 80 * most + 1000) o' → R (.tup [.tup (rs.map Rw.d), x]) (gup G s o')
local macro_rules | `(tactic| walk_at "x") => `(tactic| first
  | refine go_draw (by first | exact gup_same | assumption | fail) (by assumption) (by omega) (by walk_at "side") (by walk_at "side") fun _ _ _ _ => ?_
  | fail)
theorem ok__law_laid {P : Program} {w : World} {K : PySem.W.Frag} {mg : Str → Option Value} {base : Heap} {a : Ad} (T : Tx w K mg a) : FnD P w K mg base 7 a.f__law_laid a.fd__law_laid ["bag", "kit", "most"] sp__law_laid := by
  refine fun_okD T.F__law_laid sc__law_laid (fun ds G R h => ?_) (fun cdv A outer s H hr => ⟨_, (qss_cons (qs_setLc false (i := 3) rfl sc__law_laid.nd rfl rfl (sw_true rfl rfl rfl (by decide +kernel)) (qi_range1 rfl T.n_range (qa_cons (qe_op (od_add false) qe_int (qe_call (ok__law_draw T) (hr.mono (by omega)) rfl T.g__law_draw T.F__law_draw.kp T.b__law_draw (qa_cons (qv 0) (qa_cons qe_int qa_nil)))) qa_nil)) (blkOk_by (own := [("k", 8)]) (N := N__law_laid) (sc := defScope s__law_laid) (by decide +kernel)) (fun _ _ _ _ _ => (pg_name (i := 8) sc__law_laid.nd rfl (.inl rfl))) (tg_name (i := 8) (by decide)) (fun _ _ _ _ _ => qts_nil) (fun _ _ _ _ _ => (qe_call (ok__law_orders T) (hr.mono (by omega)) rfl T.g__law_orders T.F__law_orders.kp T.b__law_orders (qa_cons (qv 0) (qa_cons (qv 1) qa_nil)))))
      (qss_cons (qs_set (i := 4) sc__law_laid.nd rfl (.inl rfl) (qe_call (ok__law_chain T) (hr.mono (by omega)) rfl T.g__law_chain T.F__law_chain.kp T.b__law_chain (qa_cons (qv 0) (qa_cons (qv 1) (qa_cons (qe_op (od_add false) qe_int (qe_call (ok__law_draw T) (hr.mono (by omega)) rfl T.g__law_draw T.F__law_draw.kp T.b__law_draw (qa_cons (qv 0) (qa_cons (qv 2) qa_nil)))) (qa_cons (qv 3) qa_nil))))))
      (qss_cons (qs_set (i := 5) sc__law_laid.nd rfl (.inr rfl) (qe_listRg true rfl rfl T.n_list rfl T.n_range (qe_callB cd_len rfl T.n_len (by decide +kernel) (qa_cons (qv 4) qa_nil))))
      (qss_cons (qs_setLc false (i := 6) rfl sc__law_laid.nd rfl rfl (sw_true rfl rfl rfl (by decide +kernel)) (qi_range1 rfl T.n_range (qa_cons (qe_callB cd_len rfl T.n_len (by decide +kernel) (qa_cons (qv 4) qa_nil)) qa_nil)) (blkOk_by (own := [("k", 8)]) (N := N__law_laid) (sc := defScope s__law_laid) (by decide +kernel)) (fun _ _ _ _ _ => (pg_name (i := 8) sc__law_laid.nd rfl (.inl rfl))) (tg_name (i := 8) (by decide)) (fun _ _ _ _ _ => qts_nil) (fun _ _ _ _ _ => (qe_m PySem.F.plainAttrs_list PySem.F.slot_list_pop PySem.F.type_list_pop md_popAt (qv 5) (qa_cons (qe_call (ok__law_draw T) (hr.mono (by omega)) rfl T.g__law_draw T.F__law_draw.kp T.b__law_draw (qa_cons (qv 0) (qa_cons (qe_callB cd_len rfl T.n_len (by decide +kernel) (qa_cons (qv 5) qa_nil)) qa_nil))) qa_nil))))
      (qss_cons (qs_set (i := 7) sc__law_laid.nd rfl (.inr rfl) (qe_lc true rfl sc__law_laid.nd (qi_seq (qv 4)) (blkOk_by (own := [("k", 8)]) (N := N__law_laid) (sc := defScope s__law_laid) (by decide +kernel)) (fun _ _ _ _ _ => (pg_name (i := 8) sc__law_laid.nd rfl (.inl rfl))) (tg_name (i := 8) (by decide)) (fun _ _ _ _ _ => qts_nil) (fun _ _ _ _ _ => qe_non)))
      (qss_cons (qs_for PassesOwn.never rfl (qi_range1 rfl T.n_range (qa_cons (qe_callB cd_len rfl T.n_len (by decide +kernel) (qa_cons (qv 4) qa_nil)) qa_nil)) (qg_of (pg_name (i := 8) sc__law_laid.nd rfl (.inl rfl)) (tg_name (i := 8) (ws := [8]) (by decide)))
      (qss_one (qs_asg (qe_tup (qa_cons (qe_ix xd_ix (qe_ix xd_ix (qv 4) (qv 8) (fun _ _ => rfl)) qe_int (fun _ _ => rfl)) (qa_cons (qe_call (ok__law_put T) (hr.mono (by omega)) rfl T.g__law_put T.F__law_put.kp T.b__law_put (qa_cons (qe_ix xd_ix (qe_ix xd_ix (qv 4) (qv 8) (fun _ _ => rfl)) qe_int (fun _ _ => rfl)) (qa_cons (qv 6) qa_nil))) qa_nil))) (qg_sub (qv 7) (qe_ix xd_ix (qv 6) (qv 8) (fun _ _ => rfl)) sd_set))))
      (qss_cons (qs_set (i := 9) sc__law_laid.nd rfl (.inl rfl) (qe_callB (cd_sortA false hr) rfl T.n_sorted (by decide +kernel) (qa_cons (qe_call (ok__law_names T) (hr.mono (by omega)) rfl T.g__law_names T.F__law_names.kp T.b__law_names (qa_cons (qv 0) (qa_cons (qe_op (od_add false) qe_int (qe_call (ok__law_draw T) (hr.mono (by omega)) rfl T.g__law_draw T.F__law_draw.kp T.b__law_draw (qa_cons (qv 0) (qa_cons qe_int qa_nil)))) qa_nil))) qa_nil)))
      (qss_one (qs_ret (qe_tup (qa_cons (qe_callTy cd_tuple rfl T.n_tuple (by decide +kernel) (qa_cons (qv 7) qa_nil)) (qa_cons (qe_callTy cd_tuple rfl T.n_tuple (by decide +kernel) (qa_cons (qe_lc false rfl sc__law_laid.nd (qi_seq (qv 9)) (blkOk_by (own := [("name", 10)]) (N := N__law_laid) (sc := defScope s__law_laid) (by decide +kernel)) (fun _ _ _ _ _ => (pg_name (i := 10) sc__law_laid.nd rfl (.inl rfl))) (tg_name (i := 10) (by decide)) (fun _ _ _ _ _ => qts_nil) (fun _ _ _ _ _ => (qe_tup (qa_cons (qv 10) (qa_cons (qe_call (ok__law_draw T) (hr.mono (by omega)) rfl T.g__law_draw T.F__law_draw.kp T.b__law_draw (qa_cons (qv 0) (qa_cons (qe_callB cd_len rfl T.n_len (by decide +kernel) (qa_cons (qv 7) qa_nil)) qa_nil))) qa_nil))))) qa_nil)) qa_nil)))))))))))), fun ds G R h => ?_⟩)
  · obtain ⟨s, M, n, o, most, rfl, _⟩ := h; rfl
  · obtain ⟨s, M, n, o, most, rfl, hM, hm1, hm2, e, ho, hn, h⟩ := h
    refine seq_cut (fun σ' G' => ∃ (pool : List (List Ord)) (o1 : GO), σ' = [some (.ref s), some M.d, some (.int (most : Nat)), some (.lst (pool.map osD)), none, none, none, none, none, none, none] ∧ 0 < pool.length ∧ pool.length ≤ 100 ∧ (∀ os ∈ pool, RowOk M os) ∧ Ext s G G' ∧ G' s = some o1 ∧ BagO (n + 300) o1) ?_ (fun N1 hN1 => ?_)
    rotate_left
    · walk_at "go"
      rename_i r o1 hr ho1
      rw [show (1 + (r : Int)).toNat = 1 + r by omega]
      refine lc_go (fun rest acc G3 => ∃ (pool : List (List Ord)) (o3 : GO), acc = pool.map osD ∧ (∀ os ∈ pool, RowOk M os) ∧ pool.length + rest.length = 1 + r ∧ Ext s G G3 ∧ G3 s = some o3 ∧ BagO (n + 1 + 70 * pool.length) o3) ?turn ?fin _ _ _ ⟨[], o1, rfl, fun _ h => (by cases h), by simp [rng_length], (Ext.refl s G).self, gup_same, ho1⟩
      case fin =>
        rintro acc G3 ⟨pool, o3, rfl, hp, hl, hx3, e3, ho3⟩
        simp only [List.length_nil, Nat.add_zero] at hl
        exact ⟨True.intro, hN1 _ _ ⟨pool, o3, rfl, by omega, by omega, hp, hx3, e3, ho3.mono (by omega)⟩⟩
      case turn =>
        rintro x rest acc G3 ⟨pool, o3, rfl, hp, hl, hx3, e3, ho3⟩
        simp only [List.length_cons] at hl
        refine ⟨True.intro, fun N2 hN2 => ?_⟩
        walk_at "go"
        refine go_orders hM e3 ho3 (by omega) fun os o4 hos hol hom ho4 => ?_
        refine hN2 _ _ ⟨pool ++ [sortO os], o4, by rw [List.map_append]; rfl, fun os' h' => ?_, by simp only [List.length_append, List.length_cons, List.length_nil]; omega, hx3.self, gup_same, ho4.mono (by simp only [List.length_append, List.length_cons, List.length_nil]; omega)⟩
        rcases List.mem_append.mp h' with h' | h'
        · exact hp os' h'
        · rw [List.mem_singleton] at h'; rw [h']; exact ⟨os, rfl, hos, hol, hom⟩
    rintro σ2 G2 ⟨pool, o1, rfl, hp1, hp2, hpool, hx1, e1, ho1⟩
    refine seq_cut (fun σ' G' => ∃ (pr : List Rw) (o1 : GO), σ' = [some (.ref s), some M.d, some (.int (most : Nat)), some (.lst (pool.map osD)), some (.tup (pr.map Rw.d)), none, none, none, none, none, none] ∧ ProgOk M pr ∧ 0 < pr.length ∧ pr.length ≤ most ∧ Ext s G G' ∧ G' s = some o1 ∧ BagO (n + 301 + 80 * most) o1) ?_ (fun N1 hN1 => ?_)
    rotate_left
    · walk_at "go"
      rename_i r5 o5 hr5 ho5
      rw [show 1 + (r5 : Int) = ((1 + r5 : Nat) : Int) by omega]
      have h81 : 80 * (1 + r5) ≤ 80 * most := Nat.mul_le_mul_left _ (by omega)
      refine go_chain hM (by omega) hp1 hp2 hpool gup_same ho5 (by omega) fun pr o6 hpo hpl ho6 => ?_
      exact hN1 _ _ ⟨pr, o6, rfl, hpo, by omega, by omega, hx1.self.self, gup_same, ho6.mono (by omega)⟩
    rintro σ2 G2 ⟨pr, o2, rfl, hP, hp0, hpm, hx2, e2, ho2⟩
    have hrg : rng 0 pr.length = (List.range pr.length).map fun n : Nat => D.int (n : Nat) := by unfold rng; exact List.map_congr_left fun i _ => by rw [Int.zero_add]
    have hnon : (List.range pr.length).map (fun _ => D.non) = pr.map fun _ => D.non := by
      refine List.ext_getElem? fun i => ?_
      rw [List.getElem?_map, List.getElem?_map]
      by_cases hi : i < pr.length
      · rw [List.getElem?_range hi, List.getElem?_eq_getElem hi]; rfl
      · rw [List.getElem?_eq_none (by rw [List.length_range]; omega), List.getElem?_eq_none (by omega)]; rfl
    refine seq_cut (fun σ' G' => ∃ p, σ' = [some (.ref s), some M.d, some (.int (most : Nat)), some (.lst (pool.map osD)), some (.tup (pr.map Rw.d)), some (.ref p), none, none, none, none, none] ∧ s ≠ p ∧ G p = none ∧ Ext s G G' ∧ G' s = some o2 ∧ G' p = some (.lst ((List.range pr.length).map fun n : Nat => D.int (n : Nat)))) ?_ (fun N1 hN1 => ?_)
    rotate_left
    · walk_at "go"
      rename_i p np
      have hsp : s ≠ p := fr_ne e2 np
      rw [List.length_map, Int.toNat_natCast, hrg]
      exact hN1 _ _ ⟨p, rfl, hsp, hx2.nn hsp.symm np, hx2.new np hsp, by rw [gup_ne hsp]; exact e2, gup_same⟩
    rintro σ2 G3 ⟨p, rfl, hsp, npG, hx3, e3, ep3⟩
    refine seq_cut (fun σ' G' => ∃ (nums : List Nat) (o1 : GO), σ' = [some (.ref s), some M.d, some (.int (most : Nat)), some (.lst (pool.map osD)), some (.tup (pr.map Rw.d)), some (.ref p), some (.lst (nums.map fun n : Nat => D.int (n : Nat))), none, none, none, none] ∧ PermN pr.length nums ∧ Ext s G G' ∧ G' s = some o1 ∧ BagO (n + 301 + 80 * most + pr.length) o1) ?_ (fun N1 hN1 => ?_)
    rotate_left
    · walk_at "go"
      rw [List.length_map, Int.toNat_natCast]
      refine lc_go (fun rest acc G4 => ∃ (nums left : List Nat) (o4 : GO), acc = nums.map (fun n : Nat => D.int (n : Nat)) ∧ (nums ++ left).Perm (List.range pr.length) ∧ left.length = rest.length ∧ Ext s G G4 ∧ G4 s = some o4 ∧ G4 p = some (.lst (left.map fun n : Nat => D.int (n : Nat))) ∧ BagO (n + 301 + 80 * most + nums.length) o4) ?turn2 ?fin2 _ _ _ ⟨[], List.range pr.length, o2, rfl, List.Perm.refl _, by rw [rng_length, List.length_range], hx3, e3, ep3, ho2.mono (by omega)⟩
      case fin2 =>
        rintro acc G4 ⟨nums, left, o4, rfl, hp, hl, hx4, e4, ep4, ho4⟩
        have hl0 : left = [] := List.length_eq_zero_iff.mp (by simpa using hl)
        subst hl0
        rw [List.append_nil] at hp
        have hnl : nums.length = pr.length := by rw [hp.length_eq, List.length_range]
        exact ⟨True.intro, hN1 _ _ ⟨nums, o4, rfl, ⟨hnl, hp.nodup_iff.mpr List.nodup_range, fun m hm => List.mem_range.mp (hp.mem_iff.mp hm)⟩, hx4, e4, ho4.mono (by omega)⟩⟩
      case turn2 =>
        rintro y rest acc G4 ⟨nums, left, o4, rfl, hp, hl, hx4, e4, ep4, ho4⟩
        rw [List.length_cons] at hl
        have hnl : nums.length + left.length = pr.length := by have := hp.length_eq; rwa [List.length_append, List.length_range] at this
        refine ⟨True.intro, fun N2 hN2 => ?_⟩
        walk_at "go"
        refine ⟨mty_at ep4, ?_⟩
        rw [len_ref ep4, List.length_map]
        refine go_draw e4 ho4 (by omega) (by omega) (by omega) fun r o5 hr ho5 => ?_
        have hrl : r < left.length := by omega
        refine popAt_go (d := .int (left[r] : Nat)) (by rw [gup_ne hsp.symm]; exact ep4) (by rw [List.getElem?_map, List.getElem?_eq_getElem hrl]; rfl) (by omega) ?_
        refine hN2 _ _ ⟨nums ++ [left[r]], left.eraseIdx r, o5, by rw [List.map_append]; rfl, ?_, by rw [List.length_eraseIdx_of_lt hrl]; omega, hx4.self.put npG, by rw [gup_ne hsp]; exact gup_same, by rw [gup_same, erase_map], ho5.mono (by rw [List.length_append, List.length_singleton]; omega)⟩
        rw [List.append_assoc]
        refine (List.Perm.append_left nums ?_).trans hp
        exact erase_perm hrl
    rintro σ2 G4 ⟨nums, o4, rfl, hnm, hx4, e4, ho4⟩
    refine seq_cut (fun σ' G' => ∃ q, σ' = [some (.ref s), some M.d, some (.int (most : Nat)), some (.lst (pool.map osD)), some (.tup (pr.map Rw.d)), some (.ref p), some (.lst (nums.map fun n : Nat => D.int (n : Nat))), some (.ref q), none, none, none] ∧ s ≠ q ∧ G q = none ∧ Ext s G G' ∧ G' s = some o4 ∧ G' q = some (.lst ((List.range pr.length).map (fillD pr nums 0)))) ?_ (fun N1 hN1 => ?_)
    rotate_left
    · walk_at "go"
      refine lc_typ Rw.d (fun _ => .non) trivial pr [] (fun r hr Q k => by walk_at "go"; exact k) _ ?_
      rw [List.nil_append]
      walk_at "go"
      rename_i q nq
      have hsq : s ≠ q := fr_ne e4 nq
      refine hN1 _ _ ⟨q, rfl, hsq, hx4.nn hsq.symm nq, hx4.new nq hsq, by rw [gup_ne hsq]; exact e4, ?_⟩
      rw [gup_same, ← hnon]
      congr 2
    rintro σ2 G5 ⟨q, rfl, hsq, nqG, hx5, e5, eq5⟩
    refine seq_cut (fun σ' G' => ∃ (x8 : Option D), σ' = [some (.ref s), some M.d, some (.int (most : Nat)), some (.lst (pool.map osD)), some (.tup (pr.map Rw.d)), some (.ref p), some (.lst (nums.map fun n : Nat => D.int (n : Nat))), some (.ref q), x8, none, none] ∧ Ext s G G' ∧ G' s = some o4 ∧ G' q = some (.lst ((laidS pr nums).map Rw.d))) ?_ (fun N1 hN1 => ?_)
    rotate_left
    · walk_at "go"
      rw [List.length_map, Int.toNat_natCast]
      refine for_rng pr.length (fun k σ' G' => ∃ (x8 : Option D), σ' = [some (.ref s), some M.d, some (.int (most : Nat)), some (.lst (pool.map osD)), some (.tup (pr.map Rw.d)), some (.ref p), some (.lst (nums.map fun n : Nat => D.int (n : Nat))), some (.ref q), x8, none, none] ∧ Ext s G G' ∧ G' s = some o4 ∧ G' q = some (.lst ((List.range pr.length).map (fillD pr nums k)))) ?turn3 ?fin3 _ _ ⟨none, rfl, hx5, e5, eq5⟩
      case fin3 =>
        rintro σ' G' ⟨x8, rfl, hx6, e6, eq6⟩
        rw [fill_done hnm] at eq6
        exact hN1 _ _ ⟨x8, rfl, hx6, e6, eq6⟩
      case turn3 =>
        rintro k σ' G' hk ⟨x8, rfl, hx6, e6, eq6⟩ N2 hN2
        obtain ⟨h1, h2⟩ := hnm.at hk
        have hpk : pr[k]? = some pr[k] := List.getElem?_eq_getElem hk
        have hix : atI (pr.map Rw.d) (k : Nat) = some (.tup [.tup (pr[k].os.map Ord.d), pr[k].nx.d]) := atI_nat (by rw [List.getElem?_map, hpk]; rfl)
        have hin : atI (nums.map fun n : Nat => D.int (n : Nat)) (k : Nat) = some (.int (numAt nums k : Nat)) := atI_nat (by unfold numAt; rw [List.getElem?_map, List.getElem?_eq_getElem (by rw [hnm.len]; exact hk)]; rfl)
        have hnx : ∀ m ∈ pr[k].nx.nexts, m < nums.length := fun m hm => by
          have h3 := (hP.rows _ _ hpk).2
          rw [hnm.len]
          cases hx : pr[k].nx with
          | fin => rw [hx] at hm; cases hm
          | go z => rw [hx] at hm h3; rw [List.mem_singleton.mp hm]; exact h3.2
          | test p a b =>
            rw [hx] at hm h3
            simp only [Nx.nexts, List.mem_cons, List.not_mem_nil, or_false] at hm
            rcases hm with rfl | rfl
            · exact h3.2.2.1
            · exact h3.2.2.2.2
        walk_at "go"
        rw [hix, isN_some]
        walk_at "go"
        refine go_put hnx ?_
        walk_at "go"
        rw [hin, isN_some]
        refine setN_go eq6 (by rw [List.length_map, List.length_range]; exact h1) ?_
        refine hN2 _ _ ⟨_, rfl, hx6.put nqG, by rw [gup_ne hsq]; exact e6, ?_⟩
        rw [gup_same, ← fill_set hnm hk]
        unfold laidR
        rw [h2, hpk]
        rfl
    rintro σ2 G6 ⟨x8, rfl, hx6, e6, eq6⟩
    have hS := laid_store hP hnm
    have hlS : (laidS pr nums).length = pr.length := by unfold laidS; rw [List.length_map, List.length_range]
    walk_at "go"
    rename_i r7 o7 hr7 ho7
    rw [show 1 + (r7 : Int) = ((1 + r7 : Nat) : Int) by omega]
    refine go_names (by omega) (by omega) gup_same ho7 (by omega) fun names o8 hnl hn0 hnm2 ho8 => ?_
    refine sortStr_go (l := names) rfl (newL_f ▸ ?_)
    have hsl : (sortT names).length ≤ 10 := by rw [(sortT_perm names).length_eq]; omega
    generalize sortT names = zs at hsl
    have eq8 : gup G6 s o8 q = some (.lst ((laidS pr nums).map Rw.d)) := by rw [gup_ne hsq.symm]; exact eq6
    refine kont_go ?_
    walk_at "go"
    rw [tuple_r eq8]
    refine ⟨by rw [List.length_map, sizeLine_eq]; omega, ?_⟩
    refine lc_go (fun rest acc G7 => ∃ (o9 : GO), G7 s = some o9 ∧ BagO (n + 301 + 80 * most + pr.length + 1 + 100 + acc.length) o9 ∧ Ext s G G7 ∧ G7 q = some (.lst ((laidS pr nums).map Rw.d)) ∧ acc.length + rest.length = zs.length) ?turn4 ?fin4 _ _ _ ⟨o8, gup_same, ho8.mono (by omega), hx6.self, eq8, by rw [List.length_map]; simp⟩
    case fin4 =>
      rintro acc G7 ⟨o9, e9, ho9, hx9, eq9, hl9⟩
      refine ⟨True.intro, small_line (by decide), ?_⟩
      have hr2 := h (laidS pr nums) _ (.tup acc) o9 hS (by rw [hlS]; exact hp0) (by rw [hlS]; exact hpm) (fun i => by rw [hlS]; omega) (ho9.mono (by simp only [List.length_nil] at hl9; omega))
      exact rt_ext hx9 e9 hr2
    case turn4 =>
      rintro y rest acc G7 ⟨o9, e9, ho9, hx9, eq9, hl9⟩
      rw [List.length_cons] at hl9
      refine ⟨True.intro, fun N2 hN2 => ?_⟩
      walk_at "go"
      rw [len_ref eq9, List.length_map]
      refine go_draw e9 ho9 (by omega) (by rw [hlS]; omega) (by rw [hlS]; omega) fun r oa hr hoa => ?_
      walk_at "go"
      exact hN2 _ _ ⟨oa, gup_same, hoa.mono (by rw [List.length_append, List.length_singleton]; omega), hx9.self, by rw [gup_ne hsq.symm]; exact eq9, by rw [List.length_append, List.length_singleton]; omega⟩
theorem go_laidC {s : Addr} {M : Mach} {G : Gp} {R : DK} {o : GO} {n most : Nat} (hM : M.ok) (h1 : 1 ≤ most) (h2 : most ≤ 300) (e : G s = some o) (h : BagO n o) (hn : n ≤ 600000) (k : ∀ (rs : List Rw) (rk : Nat → Nat) (x : D) o', StoreP M rs rk → 0 < rs.length → rs.length ≤ most → (∀ i, rk i < rs.length) → BagO (n + 80 * most + 1000) o' → R (.tup [.tup (rs.map Rw.d), x]) (gup G s o')) : sp__law_laid [.ref s, M.d, .int (most : Nat)] G R := ⟨s, M, n, o, most, rfl, hM, h1, h2, e, h, hn, k⟩
end K52


set_option Elab.async false
set_option linter.all false
set_option maxRecDepth 100000
set_option maxHeartbeats 4000000
set_option autoImplicit false
namespace K52
open PySem PySem.Spec PyProof.Rows L2 DL
local macro_rules | `(tactic| walk_at "d") => `(tactic| dsimp only [dSeq, dNext, dIfS, dRet, dRetN, dAsg, dName, dVar, dC, dOp, dUn, dChain, dB, dAnd, dOr, dNot, dAndV, dOrV, dNotV, dIf, dNil, dCons, dTup, dLst, newL, dCallB, dCall, dCallK, dDrop, dAug, dAugS, dSub, dM, dM0, dSlice, dNoPart, dPart, dLc, dYes, dFor, dIter, dRng1, dEnum, dZipM, srcD, dStar, dInK, dIxK, dLenSet, dRev,
  startD, wipeD, setAll, dNames, List.map_cons, List.map_nil, List.length_cons, List.length_nil, List.replicate, List.cons_append, List.nil_append, List.append_nil, List.getElem?_cons_zero, List.getElem?_cons_succ, List.set_cons_zero, List.set_cons_succ, List.map, Nat.zero_add, Nat.reduceAdd, Nat.reduceSub, Nat.sub_self, Nat.succ_sub_succ_eq_sub])
local macro_rules | `(tactic| walk_at "o") => `(tactic| simp only [dAdd_ii, dAdd_ss, dAdd_tt, dAdd_ll, dMinus_ii, dMul_ii, dMod_ii, dFdiv_ii, dPow_ii, dShl_ii, dNeg_i, dIadd_ii, dLt_ii, dLe_ii, dGt_ii, dGe_ii, dEq_ii, dNe_ii, dEq_ss, dNe_ss, dEq_bb, dNe_bb, dIs_n, dIsNot_n, dMax2_ii, dMin2_ii, dTuple_t, dTuple_l, dList_t, dList_l, dIx_t, dIx_l, dIx_s, dSl_t, dSl_l, dSl_s, newL_f, len_tup, len_lst])
local macro_rules | `(tactic| walk_at "w") => `(tactic| dsimp only [x_var, x_c, x_op, x_un, x_b, x_and, x_or, x_not, x_chain, x_andV, x_orV, x_notV, x_if, x_nil, x_cons, x_tup, x_lst0, x_lst1, x_callB, x_call, x_callK, x_next, x_seq, x_break, x_cont, x_drop, x_ret, x_ifS, x_asg, x_name, x_names, x_sub, x_aug, x_augS, x_for, x_lc0, x_lc1, x_yes, x_noPart, x_part, x_slice, x_iter, it_t, it_l, it_n, it_s, it_r, x_rng1, x_enum, x_rev, x_m, x_m0, x_mX, x_zip, x_star_t, x_star_l, x_lenSet, x_forgo0, x_lcgo0, x_while, x_par, x_sortK,
  br_t, br_f, isB_bl, isI_int, isN_some, slo_some, atL_lst, ix_t, ix_l, ix_n,
  dAdd_ii, dAdd_ss, dAdd_tt, dAdd_ll, dMinus_ii, dMul_ii, dMod_ii, dFdiv_ii, dPow_ii, dShl_ii, dNeg_i, dIadd_ii, dLt_ii, dLe_ii, dGt_ii, dGe_ii, ltE_ii, ltE_ss, srcD, isi_i, isi_s, isi_b, isi_n, isi_t, isi_nt, isi_l, isi2_i, isi2_s, isi2_b, isi2_n, isi2_t, isi2_nt, isi2_l, inon_n, inon_i, inon_s, inon_b, inon_t, inon_l, inon_r, dEq_ii, dNe_ii, dEq_ss, dNe_ss, dEq_bb, dNe_bb, dIs_n, dIsNot_n, dMax2_ii, dMin2_ii, dTuple_t, dTuple_l, dList_t, dList_l, dSl_t, dSl_l, dSl_s, newL_f, newL_t, app_r, int_b, int_i, strI_i, strX_i, strX_s,
  startD, wipeD, setAll, permL, List.filterMap, List.map_cons, List.map_nil, List.length_cons, List.length_nil, List.replicate, List.cons_append, List.nil_append, List.append_nil, List.getElem?_cons_zero, List.getElem?_cons_succ, List.set_cons_zero, List.set_cons_succ, List.map, Nat.zero_add, Nat.reduceAdd, Nat.reduceSub, Nat.sub_self, Nat.succ_sub_succ_eq_sub])
local macro_rules | `(tactic| walk_at "v") => `(tactic| simp only [ofString_inj, String.reduceEq, at_0, at_1, at_2, at_3, at_4, at_5, isN_some, isBB_bl, isB_bl, br_t, br_f, br_not, br_and, br_or, br_dec, ix_r, len_tup, len_lst, len_nt, ltE_key, gup_gup, gup_same, starD_one, cut1, cut2, kt1, kt2, kt3, kt4, kt5, kt6, isTy, String.reduceBEq, Bool.or_false, Bool.false_or, Bool.true_or, Bool.or_true, Bool.and_false, Bool.false_and, Bool.true_and, Bool.and_true, Bool.not_true, Bool.not_false, decide_true, decide_false, eq_self_iff_true, Bool.false_eq_true, Int.reduceAdd, Int.add_zero, if_true, if_false, true_and, and_true])
local macro_rules | `(tactic| walk_at "side") => `(tactic| first | with_reducible assumption | omega | exact mty_up | exact True.intro | (simp only [List.mem_cons, ofString_inj, String.reduceEq, true_or, or_true, List.length_map]; done) | with_reducible exact (rfl : (_ : Nat) = _) | exact (rfl : (_ : Option String) = _) | (refine small_line ?_; omega) | (walk_at "ll"; first | omega | (refine small_line ?_; omega) | fail) | (exact log_small (by omega)) | fail)
local macro_rules | `(tactic| walk_at "x") => `(tactic| fail)
local macro_rules | `(tactic| walk_at "go") => `(tactic| repeat' (first | dsimp only [x_var, x_c, x_op, x_un, x_b, x_and, x_or, x_not, x_chain, x_andV, x_orV, x_notV, x_if, x_nil, x_cons, x_tup, x_lst0, x_lst1, x_callB, x_call, x_callK, x_next, x_seq, x_break, x_cont, x_drop, x_ret, x_ifS, x_asg, x_name, x_names, x_sub, x_aug, x_augS, x_for, x_lc0, x_lc1, x_yes, x_noPart, x_part, x_slice, x_iter, it_t, it_l, it_n, it_s, it_r, x_rng1, x_enum, x_rev, x_m, x_m0, x_mX, x_zip, x_star_t, x_star_l, x_lenSet, x_forgo0, x_lcgo0, x_while, x_par, x_sortK, br_t, br_f, isB_bl, isI_int, isN_some, slo_some, atL_lst, ix_t, ix_l, ix_n, dAdd_ii, dAdd_ss, dAdd_tt, dAdd_ll, dMinus_ii, dMul_ii, dMod_ii, dFdiv_ii, dPow_ii, dShl_ii, dNeg_i, dIadd_ii, dLt_ii, dLe_ii, dGt_ii, dGe_ii, ltE_ii, ltE_ss, srcD, isi_i, isi_s, isi_b, isi_n, isi_t, isi_nt, isi_l, isi2_i, isi2_s, isi2_b, isi2_n, isi2_t, isi2_nt, isi2_l, inon_n, inon_i, inon_s, inon_b, inon_t, inon_l, inon_r, dEq_ii, dNe_ii, dEq_ss, dNe_ss, dEq_bb, dNe_bb, dIs_n, dIsNot_n, dMax2_ii, dMin2_ii, dTuple_t, dTuple_l, dList_t, dList_l, dSl_t, dSl_l, dSl_s, newL_f, newL_t, app_r, int_b, int_i, strI_i, strX_i, strX_s, startD, wipeD, setAll, permL, List.filterMap, List.map_cons, List.map_nil, List.length_cons, List.length_nil, List.replicate, List.cons_append, List.nil_append, List.append_nil, List.getElem?_cons_zero, List.getElem?_cons_succ, List.set_cons_zero, List.set_cons_succ, List.map, Nat.zero_add, Nat.reduceAdd, Nat.reduceSub, Nat.sub_self, Nat.succ_sub_succ_eq_sub] | simp only [ofString_inj, String.reduceEq, at_0, at_1, at_2, at_3, at_4, at_5, isN_some, isBB_bl, isB_bl, br_t, br_f, br_not, br_and, br_or, br_dec, ix_r, len_tup, len_lst, len_nt, ltE_key, gup_gup, gup_same, starD_one, cut1, cut2, kt1, kt2, kt3, kt4, kt5, kt6, isTy, String.reduceBEq, Bool.or_false, Bool.false_or, Bool.true_or, Bool.or_true, Bool.and_false, Bool.false_and, Bool.true_and, Bool.and_true, Bool.not_true, Bool.not_false, decide_true, decide_false, eq_self_iff_true, Bool.false_eq_true, Int.reduceAdd, Int.add_zero, if_true, if_false, true_and, and_true] | walk_at "x" | with_reducible refine kont_go ?_ | with_reducible refine rt_sub (by assumption) ?_ | with_reducible refine rt_lst (by assumption) ?_ | with_reducible refine rt_drop (by assumption) ?_ | with_reducible refine rt_keep (by assumption) (by assumption) ?_ | with_reducible refine rt_same ?_ | (refine fun (p : Addr) (_ : _ = none) => ?_) | refine join_gor gup_same rfl (by walk_at "side") ?_ | with_reducible refine lc_cons ?_ | with_reducible refine for_cons ?_ | refine join_go rfl (by walk_at "side") ?_ | refine And.intro (by first | with_reducible assumption | omega | exact mty_up | exact True.intro | (simp only [List.mem_cons, ofString_inj, String.reduceEq, true_or, or_true, List.length_map]; done) | with_reducible exact (rfl : (_ : Nat) = _) | exact (rfl : (_ : Option String) = _) | (refine small_line ?_; omega) | (walk_at "ll"; first | omega | (refine small_line ?_; omega) | fail) | (exact log_small (by omega)) | fail) ?_ | fail))
local macro_rules | `(tactic| walk_at "ll") => `(tactic| simp only [List.length_map, List.length_append, List.length_cons, List.length_nil, List.map_cons, List.map_nil, List.sum_cons, List.sum_nil, len_app, rng_length, ll_0, ll_1, ll_2, ll_3, ll_4, ll_5, ll_6, ll_7, ll_8, ll_9, ll_10, ll_11, ll_12, ll_13, ll_14, ll_15, ll_16, ll_17, ll_18, ll_19, ll_20, ll_21, ll_22, ll_23, ll_24, ll_25, ll_26, ll_27, ll_28, ll_29, ll_30, ll_31, ll_32, ll_33, ll_34, ll_35, ll_36, ll_37])
/-! ### asked of rows that are none -/
def sp__law_asked (w : World) (a : Ad) : DSp := fun ds G R => ∃ (M : Mach) (rs : List Rw) (rk : Nat → Nat) (x : D) (i j : Int), ds = [.tup [.tup (rs.map Rw.d), x], .int i, .int j] ∧ M.ok ∧ StoreP M rs rk ∧ rs.length ≤ 900 ∧ (¬ (0 ≤ i ∧ i < (rs.length : Int) ∧ 0 ≤ j ∧ j < (rs.length : Int)) → R (.bl true) G) ∧ (0 ≤ i ∧ i < (rs.length : Int) ∧ 0 ≤ j ∧ j < (rs.length : Int) → R .non G)
local macro_rules | `(tactic| walk_at "x") => `(tactic| first | dsimp only [x_tryK, x_callX, x_callKX, isE_lst, isE_tupl, isE_non] | fail)
theorem ok__law_asked {P : Program} {w : World} {K : PySem.W.Frag} {mg : Str → Option Value} {base : Heap} {a : Ad} (T : Tx w K mg a) : FnD P w K mg base 3 a.f__law_asked a.fd__law_asked ["hold", "one", "other"] (sp__law_asked w a) := by
  refine fun_okD T.F__law_asked sc__law_asked (fun ds G R h => ?_) (fun cdv A outer s H hr => ⟨_, (qss_cons (qs_set (i := 3) sc__law_asked.nd rfl (.inl rfl) qe_non)
      (qss_cons (qs_tryKeep (i := 4) (j := 3) rfl rfl rfl sc__law_asked.nd rfl rfl rfl (.inl rfl) ⟨rfl, by decide, .inl T.gx_LoftError⟩ (fun _ _ _ tk hp => (ssx_one (sx_expr (ex_callA (fun σ => L2N.passAt tk σ) (ok_parted T) (hr.mono (by omega)) rfl T.g_parted T.F_parted.kp T.b_parted (ax_of (qa_cons (qv 0) (qa_cons (qv 1) (qa_cons (qv 2) qa_nil))))))))
      (fun _ _ => pss_cons (ps_set (i := 3) sc__law_asked.nd rfl (.inl rfl) (pv 4)) pss_nil))
      (qss_cons (qs_if (qt_cmp od_is (qv 3) qe_non (nomark _))
      (qss_one (qs_ret qe_non))
      qss_nil)
      (qss_cons (qs_set (i := 5) sc__law_asked.nd rfl (.inl rfl) (qe_callB cd_isiE rfl T.n_isinstance (by decide +kernel) (qa_cons (qv 3) (qa_cons (qe_tup (qa_cons (qe_glob (d := .ref a.x_NoCells) (v := .ref a.x_NoCells) rfl T.gx_NoCells rfl (fun _ _ => RD.ref _)) (qa_cons (qe_glob (d := .ref a.x_NoLoft) (v := .ref a.x_NoLoft) rfl T.gx_NoLoft rfl (fun _ _ => RD.ref _)) (qa_cons (qe_glob (d := .ref a.x_NoName) (v := .ref a.x_NoName) rfl T.gx_NoName rfl (fun _ _ => RD.ref _)) (qa_cons (qe_glob (d := .ref a.x_NoRoom) (v := .ref a.x_NoRoom) rfl T.gx_NoRoom rfl (fun _ _ => RD.ref _)) (qa_cons (qe_glob (d := .ref a.x_NotStill) (v := .ref a.x_NotStill) rfl T.gx_NotStill rfl (fun _ _ => RD.ref _)) (qa_cons (qe_glob (d := .ref a.x_NoText) (v := .ref a.x_NoText) rfl T.gx_NoText rfl (fun _ _ => RD.ref _)) (qa_cons (qe_glob (d := .ref a.x_TooMany) (v := .ref a.x_TooMany) rfl T.gx_TooMany rfl (fun _ _ => RD.ref _)) qa_nil)))))))) qa_nil))))
      (qss_one (qs_ret (qe_and (qe_callB cd_isiE rfl T.n_isinstance (by decide +kernel) (qa_cons (qv 3) (qa_cons (qe_glob (d := .ref a.x_NoRow) (v := .ref a.x_NoRow) rfl T.gx_NoRow rfl (fun _ _ => RD.ref _)) qa_nil))) (qe_and (qe_callB cd_isiE rfl T.n_isinstance (by decide +kernel) (qa_cons (qv 3) (qa_cons (qe_ty (n := "ValueError") rfl T.n_ValueError (by decide +kernel)) qa_nil))) (qe_one (qe_not (qv 5))))))))))), fun ds G R h => ?_⟩)
  · obtain ⟨M, rs, rk, x, i, j, rfl, _⟩ := h; rfl
  · obtain ⟨M, rs, rk, x, i, j, rfl, hM, hS, hl, hbad, hgood⟩ := h
    walk_at "go"
    by_cases hv : 0 ≤ i ∧ i < (rs.length : Int) ∧ 0 ≤ j ∧ j < (rs.length : Int)
    · refine ⟨M, rs, rk, x, i, j, rfl, hM, hS, hl, fun hn => absurd hv hn, fun i' j' _ _ _ _ => ?_⟩
      have h := hgood hv
      walk_at "go"
      exact h
    · have h := hbad hv
      refine ⟨M, rs, rk, x, i, j, rfl, hM, hS, hl, fun _ => subX_same (keep_go T.xm_NoRow_LoftError fun p np => ?_), fun i' j' e1 e2 h1 h2 => absurd (show 0 ≤ i ∧ i < (rs.length : Int) ∧ 0 ≤ j ∧ j < (rs.length : Int) by omega) hv⟩
      have eG : gup G p (.ex (.ref a.x_NoRow) []) p = some (.ex (.ref a.x_NoRow) []) := gup_same
      have hS4 : DL.Sub G (gup G p (.ex (.ref a.x_NoRow) [])) := Sub.new np
      generalize gup G p (.ex (.ref a.x_NoRow) []) = G4 at eG hS4 ⊢
      clear hbad hgood
      walk_at "go"
      refine isE_tup eG T.ec_NoRow rfl (kit_any1 T.ki_NoRow_NoCells (kit_any1 T.ki_NoRow_NoLoft (kit_any1 T.ki_NoRow_NoName (kit_any1 T.ki_NoRow_NoRoom (kit_any1 T.ki_NoRow_NotStill (kit_any1 T.ki_NoRow_NoText (kit_any1 T.ki_NoRow_TooMany kit_any0))))))) ?_
      walk_at "go"
      refine isE_one eG T.ec_NoRow rfl T.ki_NoRow_NoRow ?_
      walk_at "go"
      refine isE_one eG T.ec_NoRow rfl T.ki_NoRow_ValueError ?_
      walk_at "go"
      exact h
theorem go_lasked {w : World} {a : Ad} {M : Mach} {rs : List Rw} {rk : Nat → Nat} {x : D} {i j : Int} {G : Gp} {R : DK} (hM : M.ok) (hS : StoreP M rs rk) (hl : rs.length ≤ 900) (h1 : ¬ (0 ≤ i ∧ i < (rs.length : Int) ∧ 0 ≤ j ∧ j < (rs.length : Int)) → R (.bl true) G) (h2 : 0 ≤ i ∧ i < (rs.length : Int) ∧ 0 ≤ j ∧ j < (rs.length : Int) → R .non G) : sp__law_asked w a [.tup [.tup (rs.map Rw.d), x], .int i, .int j] G R := ⟨M, rs, rk, x, i, j, rfl, hM, hS, hl, h1, h2⟩
theorem cpow108 : CPowX 10 8 := pow_ok (n := 4) (by decide) (by decide) (by decide) (by decide) (by decide)
def sp__law_right (w : World) (a : Ad) : DSp := fun ds G R => ∃ s o, ds = [.ref s] ∧ G s = some o ∧ BagO 100 o ∧ ∀ G', R (.bl true) G'
local macro_rules | `(tactic| walk_at "x") => `(tactic| first
  | refine go_draw (by first | exact gup_same | assumption | fail) (by assumption) (by omega) (by walk_at "side") (by walk_at "side") fun _ _ _ _ => ?_
  | refine isB_go ?_
  | fail)
theorem ok__law_right {P : Program} {w : World} {K : PySem.W.Frag} {mg : Str → Option Value} {base : Heap} {a : Ad} (T : Tx w K mg a) : FnD P w K mg base 8 a.f__law_right a.fd__law_right ["bag"] (sp__law_right w a) := by
  refine fun_okD T.F__law_right sc__law_right (fun ds G R h => ?_) (fun cdv A outer s H hr => ⟨_, (qss_cons (qs_set (i := 1) sc__law_right.nd rfl (.inl rfl) (qe_call (ok__law_laid T) (hr.mono (by omega)) rfl T.g__law_laid T.F__law_laid.kp T.b__law_laid (qa_cons (qv 0) (qa_cons (qe_call (ok__law_few T) (hr.mono (by omega)) rfl T.g__law_few T.F__law_few.kp T.b__law_few (qa_cons (qv 0) qa_nil)) (qa_cons qe_int qa_nil)))))
      (qss_cons (qs_set (i := 2) sc__law_right.nd rfl (.inl rfl) (qe_callB cd_len rfl T.n_len (by decide +kernel) (qa_cons (qe_ix xd_ix (qv 1) qe_int (fun _ _ => rfl)) qa_nil)))
      (qss_cons (qs_for PassesOwn.never rfl (qi_range1 rfl T.n_range (qa_cons qe_int qa_nil)) (qg_of (pg_name (i := 3) sc__law_right.nd rfl (.inl rfl)) (tg_name (i := 3) (ws := [3]) (by decide)))
      (qss_cons (qs_set (i := 4) sc__law_right.nd rfl (.inl rfl) (qe_ix xd_ix (qe_lst false (qa_cons (qe_un od_neg qe_int) (qa_cons (qv 2) (qa_cons (qe_op (od_add false) (qv 2) (qe_call (ok__law_draw T) (hr.mono (by omega)) rfl T.g__law_draw T.F__law_draw.kp T.b__law_draw (qa_cons (qv 0) (qa_cons (qe_op od_pow qe_int qe_int) qa_nil)))) (qa_cons (qe_op od_sub (qe_op od_sub qe_int qe_int) (qe_call (ok__law_draw T) (hr.mono (by omega)) rfl T.g__law_draw T.F__law_draw.kp T.b__law_draw (qa_cons (qv 0) (qa_cons (qe_op od_pow qe_int qe_int) qa_nil)))) (qa_cons (qe_op od_sub qe_int (qv 2)) qa_nil)))))) (qe_call (ok__law_draw T) (hr.mono (by omega)) rfl T.g__law_draw T.F__law_draw.kp T.b__law_draw (qa_cons (qv 0) (qa_cons qe_int qa_nil))) (fun _ _ => rfl)))
      (qss_cons (qs_set (i := 5) sc__law_right.nd rfl (.inl rfl) (qe_ix xd_ix (qe_lst false (qa_cons (qe_un od_neg qe_int) (qa_cons (qv 2) (qa_cons (qe_call (ok__law_draw T) (hr.mono (by omega)) rfl T.g__law_draw T.F__law_draw.kp T.b__law_draw (qa_cons (qv 0) (qa_cons (qv 2) qa_nil))) (qa_cons (qe_call (ok__law_draw T) (hr.mono (by omega)) rfl T.g__law_draw T.F__law_draw.kp T.b__law_draw (qa_cons (qv 0) (qa_cons (qv 2) qa_nil))) (qa_cons qe_int qa_nil)))))) (qe_call (ok__law_draw T) (hr.mono (by omega)) rfl T.g__law_draw T.F__law_draw.kp T.b__law_draw (qa_cons (qv 0) (qa_cons qe_int qa_nil))) (fun _ _ => rfl)))
      (qss_cons (qs_if (QW.pt (qw_or (qt_cmp od_notB (qe_call (ok__law_asked T) (hr.mono (by omega)) rfl T.g__law_asked T.F__law_asked.kp T.b__law_asked (qa_cons (qv 1) (qa_cons (qv 4) (qa_cons (qv 5) qa_nil)))) qe_bl (nomark _)) (qw_or1 (qt_cmp od_notB (qe_call (ok__law_asked T) (hr.mono (by omega)) rfl T.g__law_asked T.F__law_asked.kp T.b__law_asked (qa_cons (qv 1) (qa_cons (qv 5) (qa_cons (qv 4) qa_nil)))) qe_bl (nomark _)))))
      (qss_one (qs_ret qe_bl))
      qss_nil)
      (qss_one (qs_if (qt_cmp od_isNot (qe_call (ok__law_asked T) (hr.mono (by omega)) rfl T.g__law_asked T.F__law_asked.kp T.b__law_asked (qa_cons (qv 1) (qa_cons (qe_call (ok__law_draw T) (hr.mono (by omega)) rfl T.g__law_draw T.F__law_draw.kp T.b__law_draw (qa_cons (qv 0) (qa_cons (qv 2) qa_nil))) (qa_cons (qe_call (ok__law_draw T) (hr.mono (by omega)) rfl T.g__law_draw T.F__law_draw.kp T.b__law_draw (qa_cons (qv 0) (qa_cons (qv 2) qa_nil))) qa_nil)))) qe_non (nomark _))
      (qss_one (qs_ret qe_bl))
      qss_nil))))))
      (qss_one (qs_ret qe_bl))))), fun ds G R h => ?_⟩)
  · obtain ⟨s, o, rfl, _⟩ := h; rfl
  · obtain ⟨s, o, rfl, e, ho, h⟩ := h
    refine seq_cut (fun σ' G' => ∃ (M : Mach) (rs : List Rw) (rk : Nat → Nat) (x : D) (o1 : GO), σ' = [some (.ref s), some (.tup [.tup (rs.map Rw.d), x]), none, none, none, none] ∧ M.ok ∧ StoreP M rs rk ∧ 0 < rs.length ∧ rs.length ≤ 9 ∧ G' s = some o1 ∧ BagO 2000 o1) ?_ (fun N1 hN1 => ?_)
    rotate_left
    · walk_at "go"
      refine go_few e ho (by omega) fun M o1 hM ho1 => ?_
      refine go_laidC (most := 9) hM (by omega) (by omega) gup_same ho1 (by omega) fun rs rk x o2 hS h0 h9 hrk ho2 => ?_
      exact hN1 _ _ ⟨M, rs, rk, x, o2, rfl, hM, hS, h0, h9, gup_same, ho2.mono (by omega)⟩
    rintro σ G1 ⟨M, rs, rk, x, o1, rfl, hM, hS, h0, h9, e1, ho1⟩
    refine seq_cut (fun σ' G' => σ' = [some (.ref s), some (.tup [.tup (rs.map Rw.d), x]), some (.int (rs.length : Nat)), none, none, none] ∧ G' = G1) ?_ (fun N1 hN1 => ?_)
    rotate_left
    · walk_at "go"
      rw [List.length_map]
      exact hN1 _ _ ⟨rfl, rfl⟩
    rintro σ G1 ⟨rfl, rfl⟩
    walk_at "w"
    refine ⟨by omega, by omega, ?_⟩
    rw [show Int.toNat 5 = 5 from rfl]
    refine for_rng 5 (fun k σ' G' => ∃ (o2 : GO) (x3 x4 x5 : Option D), σ' = [some (.ref s), some (.tup [.tup (rs.map Rw.d), x]), some (.int (rs.length : Nat)), x3, x4, x5] ∧ G' s = some o2 ∧ BagO (2000 + 10 * k) o2) ?turn ?fin _ _ ⟨o1, none, none, none, rfl, e1, ho1⟩
    case fin =>
      rintro σ' G' ⟨o2, x3, x4, x5, rfl, e2, ho2⟩
      walk_at "w"
      exact rt_same (h _)
    case turn =>
      rintro k σ' G' hk ⟨o2, x3, x4, x5, rfl, e2, ho2⟩ N hN
      dsimp only [x_name, List.set_cons_zero, List.set_cons_succ]
      refine seq_cut (fun σ' G2 => ∃ (z : Int) (o3 : GO), σ' = [some (.ref s), some (.tup [.tup (rs.map Rw.d), x]), some (.int (rs.length : Nat)), some (.int (k : Nat)), some (.int z), x5] ∧ ¬ (0 ≤ z ∧ z < (rs.length : Int)) ∧ G2 s = some o3 ∧ BagO (2000 + 10 * k + 3) o3) ?_ (fun N1 hN1 => ?_)
      rotate_left
      · walk_at "go"
        refine ⟨cpow108, ?_⟩
        rw [show (10 : Int) ^ Int.toNat 8 = 100000000 from rfl]
        walk_at "go"
        refine ⟨cpow108, ?_⟩
        walk_at "go"
        rename_i r1 o3 hr1 ho3 r2 o4 hr2 ho4 r3 o5 hr3 ho5
        refine pick (by walk_at "side") fun d hd => ?_
        obtain ⟨z, rfl, hz⟩ : ∃ z : Int, d = .int z ∧ ¬ (0 ≤ z ∧ z < (rs.length : Int)) := by
          simp only [List.mem_cons, List.not_mem_nil, or_false] at hd
          rcases hd with rfl | rfl | rfl | rfl | rfl
          · exact ⟨_, rfl, by omega⟩
          · exact ⟨_, rfl, by omega⟩
          · exact ⟨_, rfl, by omega⟩
          · exact ⟨_, rfl, by omega⟩
          · exact ⟨_, rfl, by omega⟩
        walk_at "go"
        exact hN1 _ _ ⟨z, o5, rfl, hz, gup_same, ho5⟩
      rintro σ' G2 ⟨z, o3, rfl, hz, e3, ho3⟩
      refine seq_cut (fun σ' G2 => ∃ (y : Int) (o3 : GO), σ' = [some (.ref s), some (.tup [.tup (rs.map Rw.d), x]), some (.int (rs.length : Nat)), some (.int (k : Nat)), some (.int z), some (.int y)] ∧ G2 s = some o3 ∧ BagO (2000 + 10 * k + 6) o3) ?_ (fun N1 hN1 => ?_)
      rotate_left
      · walk_at "go"
        rename_i r1 o4 hr1 ho4 r2 o5 hr2 ho5 r3 o6 hr3 ho6
        refine pick (by walk_at "side") fun d hd => ?_
        obtain ⟨y, rfl⟩ : ∃ y : Int, d = .int y := by
          simp only [List.mem_cons, List.not_mem_nil, or_false] at hd
          rcases hd with rfl | rfl | rfl | rfl | rfl <;> exact ⟨_, rfl⟩
        walk_at "go"
        exact hN1 _ _ ⟨y, o6, rfl, gup_same, ho6⟩
      rintro σ' G2 ⟨y, o4, rfl, e4, ho4⟩
      walk_at "go"
      refine go_lasked hM hS (by omega) (fun _ => ?_) (fun hv => absurd ⟨hv.1, hv.2.1⟩ hz)
      refine notB_go ?_
      rw [decide_eq_true rfl]
      walk_at "go"
      refine go_lasked hM hS (by omega) (fun _ => ?_) (fun hv => absurd ⟨hv.2.2.1, hv.2.2.2⟩ hz)
      refine notB_go ?_
      rw [decide_eq_true rfl]
      walk_at "go"
      rename_i r1 o5 hr1 ho5 r2 o6 hr2 ho6
      refine go_lasked hM hS (by omega) (fun hv => absurd ⟨by omega, by omega, by omega, by omega⟩ hv) (fun _ => ?_)
      walk_at "go"
      exact hN _ _ ⟨o6, _, _, _, rfl, gup_same, ho6.mono (by omega)⟩
end K52


set_option Elab.async false
set_option linter.all false
set_option maxRecDepth 100000
set_option maxHeartbeats 4000000
set_option autoImplicit false
namespace K52
open PySem PySem.Spec PyProof.Rows L2 DL
local macro_rules | `(tactic| walk_at "d") => `(tactic| dsimp only [dSeq, dNext, dIfS, dRet, dRetN, dAsg, dName, dVar, dC, dOp, dUn, dChain, dB, dAnd, dOr, dNot, dAndV, dOrV, dNotV, dIf, dNil, dCons, dTup, dLst, newL, dCallB, dCall, dCallK, dDrop, dAug, dAugS, dSub, dM, dM0, dSlice, dNoPart, dPart, dLc, dYes, dFor, dIter, dRng1, dEnum, dZipM, srcD, dStar, dInK, dIxK, dLenSet, dRev,
  startD, wipeD, setAll, dNames, List.map_cons, List.map_nil, List.length_cons, List.length_nil, List.replicate, List.cons_append, List.nil_append, List.append_nil, List.getElem?_cons_zero, List.getElem?_cons_succ, List.set_cons_zero, List.set_cons_succ, List.map, Nat.zero_add, Nat.reduceAdd, Nat.reduceSub, Nat.sub_self, Nat.succ_sub_succ_eq_sub])
local macro_rules | `(tactic| walk_at "o") => `(tactic| simp only [dAdd_ii, dAdd_ss, dAdd_tt, dAdd_ll, dMinus_ii, dMul_ii, dMod_ii, dFdiv_ii, dPow_ii, dShl_ii, dNeg_i, dIadd_ii, dLt_ii, dLe_ii, dGt_ii, dGe_ii, dEq_ii, dNe_ii, dEq_ss, dNe_ss, dEq_bb, dNe_bb, dIs_n, dIsNot_n, dMax2_ii, dMin2_ii, dTuple_t, dTuple_l, dList_t, dList_l, dIx_t, dIx_l, dIx_s, dSl_t, dSl_l, dSl_s, newL_f, len_tup, len_lst])
local macro_rules | `(tactic| walk_at "w") => `(tactic| dsimp only [x_var, x_c, x_op, x_un, x_b, x_and, x_or, x_not, x_chain, x_andV, x_orV, x_notV, x_if, x_nil, x_cons, x_tup, x_lst0, x_lst1, x_callB, x_call, x_callK, x_next, x_seq, x_break, x_cont, x_drop, x_ret, x_ifS, x_asg, x_name, x_names, x_sub, x_aug, x_augS, x_for, x_lc0, x_lc1, x_yes, x_noPart, x_part, x_slice, x_iter, it_t, it_l, it_n, it_s, it_r, x_rng1, x_enum, x_rev, x_m, x_m0, x_mX, x_zip, x_star_t, x_star_l, x_lenSet, x_forgo0, x_lcgo0, x_while, x_par, x_sortK,
  br_t, br_f, isB_bl, isI_int, isN_some, slo_some, atL_lst, ix_t, ix_l, ix_n,
  dAdd_ii, dAdd_ss, dAdd_tt, dAdd_ll, dMinus_ii, dMul_ii, dMod_ii, dFdiv_ii, dPow_ii, dShl_ii, dNeg_i, dIadd_ii, dLt_ii, dLe_ii, dGt_ii, dGe_ii, ltE_ii, ltE_ss, srcD, isi_i, isi_s, isi_b, isi_n, isi_t, isi_nt, isi_l, isi2_i, isi2_s, isi2_b, isi2_n, isi2_t, isi2_nt, isi2_l, inon_n, inon_i, inon_s, inon_b, inon_t, inon_l, inon_r, dEq_ii, dNe_ii, dEq_ss, dNe_ss, dEq_bb, dNe_bb, dIs_n, dIsNot_n, dMax2_ii, dMin2_ii, dTuple_t, dTuple_l, dList_t, dList_l, dSl_t, dSl_l, dSl_s, newL_f, newL_t, app_r, int_b, int_i, strI_i, strX_i, strX_s,
  startD, wipeD, setAll, permL, List.filterMap, List.map_cons, List.map_nil, List.length_cons, List.length_nil, List.replicate, List.cons_append, List.nil_append, List.append_nil, List.getElem?_cons_zero, List.getElem?_cons_succ, List.set_cons_zero, List.set_cons_succ, List.map, Nat.zero_add, Nat.reduceAdd, Nat.reduceSub, Nat.sub_self, Nat.succ_sub_succ_eq_sub])
local macro_rules | `(tactic| walk_at "v") => `(tactic| simp only [ofString_inj, String.reduceEq, at_0, at_1, at_2, at_3, at_4, at_5, isN_some, isBB_bl, isB_bl, br_t, br_f, br_not, br_and, br_or, br_dec, ix_r, len_tup, len_lst, len_nt, ltE_key, gup_gup, gup_same, starD_one, cut1, cut2, kt1, kt2, kt3, kt4, kt5, kt6, isTy, String.reduceBEq, Bool.or_false, Bool.false_or, Bool.true_or, Bool.or_true, Bool.and_false, Bool.false_and, Bool.true_and, Bool.and_true, Bool.not_true, Bool.not_false, decide_true, decide_false, eq_self_iff_true, Bool.false_eq_true, Int.reduceAdd, Int.add_zero, if_true, if_false, true_and, and_true])
local macro_rules | `(tactic| walk_at "side") => `(tactic| first | with_reducible assumption | omega | exact mty_up | exact True.intro | (simp only [List.mem_cons, ofString_inj, String.reduceEq, true_or, or_true, List.length_map]; done) | with_reducible exact (rfl : (_ : Nat) = _) | exact (rfl : (_ : Option String) = _) | (refine small_line ?_; omega) | (walk_at "ll"; first | omega | (refine small_line ?_; omega) | fail) | (exact log_small (by omega)) | fail)
local macro_rules | `(tactic| walk_at "x") => `(tactic| fail)
local macro_rules | `(tactic| walk_at "go") => `(tactic| repeat' (first | dsimp only [x_var, x_c, x_op, x_un, x_b, x_and, x_or, x_not, x_chain, x_andV, x_orV, x_notV, x_if, x_nil, x_cons, x_tup, x_lst0, x_lst1, x_callB, x_call, x_callK, x_next, x_seq, x_break, x_cont, x_drop, x_ret, x_ifS, x_asg, x_name, x_names, x_sub, x_aug, x_augS, x_for, x_lc0, x_lc1, x_yes, x_noPart, x_part, x_slice, x_iter, it_t, it_l, it_n, it_s, it_r, x_rng1, x_enum, x_rev, x_m, x_m0, x_mX, x_zip, x_star_t, x_star_l, x_lenSet, x_forgo0, x_lcgo0, x_while, x_par, x_sortK, br_t, br_f, isB_bl, isI_int, isN_some, slo_some, atL_lst, ix_t, ix_l, ix_n, dAdd_ii, dAdd_ss, dAdd_tt, dAdd_ll, dMinus_ii, dMul_ii, dMod_ii, dFdiv_ii, dPow_ii, dShl_ii, dNeg_i, dIadd_ii, dLt_ii, dLe_ii, dGt_ii, dGe_ii, ltE_ii, ltE_ss, srcD, isi_i, isi_s, isi_b, isi_n, isi_t, isi_nt, isi_l, isi2_i, isi2_s, isi2_b, isi2_n, isi2_t, isi2_nt, isi2_l, inon_n, inon_i, inon_s, inon_b, inon_t, inon_l, inon_r, dEq_ii, dNe_ii, dEq_ss, dNe_ss, dEq_bb, dNe_bb, dIs_n, dIsNot_n, dMax2_ii, dMin2_ii, dTuple_t, dTuple_l, dList_t, dList_l, dSl_t, dSl_l, dSl_s, newL_f, newL_t, app_r, int_b, int_i, strI_i, strX_i, strX_s, startD, wipeD, setAll, permL, List.filterMap, List.map_cons, List.map_nil, List.length_cons, List.length_nil, List.replicate, List.cons_append, List.nil_append, List.append_nil, List.getElem?_cons_zero, List.getElem?_cons_succ, List.set_cons_zero, List.set_cons_succ, List.map, Nat.zero_add, Nat.reduceAdd, Nat.reduceSub, Nat.sub_self, Nat.succ_sub_succ_eq_sub] | simp only [ofString_inj, String.reduceEq, at_0, at_1, at_2, at_3, at_4, at_5, isN_some, isBB_bl, isB_bl, br_t, br_f, br_not, br_and, br_or, br_dec, ix_r, len_tup, len_lst, len_nt, ltE_key, gup_gup, gup_same, starD_one, cut1, cut2, kt1, kt2, kt3, kt4, kt5, kt6, isTy, String.reduceBEq, Bool.or_false, Bool.false_or, Bool.true_or, Bool.or_true, Bool.and_false, Bool.false_and, Bool.true_and, Bool.and_true, Bool.not_true, Bool.not_false, decide_true, decide_false, eq_self_iff_true, Bool.false_eq_true, Int.reduceAdd, Int.add_zero, if_true, if_false, true_and, and_true] | walk_at "x" | with_reducible refine kont_go ?_ | with_reducible refine rt_sub (by assumption) ?_ | with_reducible refine rt_lst (by assumption) ?_ | with_reducible refine rt_drop (by assumption) ?_ | with_reducible refine rt_keep (by assumption) (by assumption) ?_ | with_reducible refine rt_same ?_ | (refine fun (p : Addr) (_ : _ = none) => ?_) | refine join_gor gup_same rfl (by walk_at "side") ?_ | with_reducible refine lc_cons ?_ | with_reducible refine for_cons ?_ | refine join_go rfl (by walk_at "side") ?_ | refine And.intro (by first | with_reducible assumption | omega | exact mty_up | exact True.intro | (simp only [List.mem_cons, ofString_inj, String.reduceEq, true_or, or_true, List.length_map]; done) | with_reducible exact (rfl : (_ : Nat) = _) | exact (rfl : (_ : Option String) = _) | (refine small_line ?_; omega) | (walk_at "ll"; first | omega | (refine small_line ?_; omega) | fail) | (exact log_small (by omega)) | fail) ?_ | fail))
local macro_rules | `(tactic| walk_at "ll") => `(tactic| simp only [List.length_map, List.length_append, List.length_cons, List.length_nil, List.map_cons, List.map_nil, List.sum_cons, List.sum_nil, len_app, rng_length, ll_0, ll_1, ll_2, ll_3, ll_4, ll_5, ll_6, ll_7, ll_8, ll_9, ll_10, ll_11, ll_12, ll_13, ll_14, ll_15, ll_16, ll_17, ll_18, ll_19, ll_20, ll_21, ll_22, ll_23, ll_24, ll_25, ll_26, ll_27, ll_28, ll_29, ll_30, ll_31, ll_32, ll_33, ll_34, ll_35, ll_36, ll_37])
def sp_law : DSp := fun ds G R => match ds with
  | [.lst xs] => ∃ ns : List Int, xs = ns.map D.int ∧ ns.length ≤ 63 ∧ (∀ z ∈ ns, Builtin.Int.intBits z ≤ 1048576) ∧ ∀ G', R (.bl true) G'
  | _ => False
theorem ok_law {P : Program} {w : World} {K : PySem.W.Frag} {mg : Str → Option Value} {base : Heap} {a : Ad} (T : Tx w K mg a) : FnD P w K mg base 9 a.f_law a.fd_law ["script"] sp_law := by
  refine fun_okD T.F_law sc_law (fun ds G R h => ?_) (fun cdv A outer s H hr => ⟨_, (qss_cons (qs_for PassesOwn.never rfl (qi_range1 rfl T.n_range (qa_cons (qe_callB (cd_max2 rfl) rfl T.n_max (by decide +kernel) (qa_cons qe_int (qa_cons (qe_callB (cd_min2 rfl) rfl T.n_min (by decide +kernel) (qa_cons (qe_callB cd_len rfl T.n_len (by decide +kernel) (qa_cons (qv 0) qa_nil)) (qa_cons qe_int qa_nil))) qa_nil))) qa_nil)) (qg_of (pg_name (i := 1) sc_law.nd rfl (.inl rfl)) (tg_name (i := 1) (ws := [1]) (by decide)))
      (qss_one (qs_if (qt_not (qt_val (qe_call (ok__law_right T) (hr.mono (by omega)) rfl T.g__law_right T.F__law_right.kp T.b__law_right (qa_cons (qe_call (ok__law_bag T) (hr.mono (by omega)) rfl T.g__law_bag T.F__law_bag.kp T.b__law_bag (qa_cons (qe_ix xd_ix (qe_op (od_add false) (qv 0) (qe_lst false (qa_cons qe_int qa_nil))) (qv 1) (fun _ _ => rfl)) (qa_cons (qv 1) qa_nil))) qa_nil))))
      (qss_one (qs_ret qe_bl))
      qss_nil)))
      (qss_one (qs_ret qe_bl))), fun ds G R h => ?_⟩)
  · unfold sp_law at h; split at h; rfl; exact h.elim
  · unfold sp_law at h
    split at h
    · obtain ⟨ns, rfl, hl, hb, h⟩ := h
      walk_at "go"
      rw [List.length_map]
      obtain ⟨m, em, hm⟩ : ∃ m : Nat, (if (if 6 < (ns.length : Int) then 6 else (ns.length : Int)) > 1 then if 6 < (ns.length : Int) then 6 else (ns.length : Int) else 1) = (m : Int) ∧ m ≤ ns.length + 1 := ⟨(if (if 6 < (ns.length : Int) then 6 else (ns.length : Int)) > 1 then if 6 < (ns.length : Int) then 6 else (ns.length : Int) else 1).toNat, by split <;> (try split) <;> omega, by split <;> (try split) <;> omega⟩
      rw [em, Int.toNat_natCast]
      refine for_rng m (fun k σ' G' => ∃ x1, σ' = [some (D.lst (ns.map D.int)), x1]) ?turn ?fin _ _ ⟨none, rfl⟩
      case fin =>
        rintro σ' G' ⟨x1, rfl⟩
        walk_at "go"
        exact h _
      case turn =>
        rintro k σ' G' hk ⟨x1, rfl⟩ N hN
        have hg : ∃ c : Int, (ns.map D.int ++ [D.int 0])[k]? = some (.int c) ∧ Builtin.Int.intBits c ≤ 1048576 := by
          by_cases hkl : k < ns.length
          · refine ⟨ns[k], ?_, hb _ (List.getElem_mem hkl)⟩
            rw [List.getElem?_append_left (by rw [List.length_map]; exact hkl), List.getElem?_map, List.getElem?_eq_getElem hkl]; rfl
          · refine ⟨0, ?_, by decide⟩
            rw [List.getElem?_append_right (by rw [List.length_map]; omega), List.length_map, show k - ns.length = 0 by omega]; rfl
        obtain ⟨c, hc1, hc2⟩ := hg
        walk_at "go"
        rw [atI_nat hc1]
        walk_at "go"
        refine fun p o np ho => ?_
        refine ⟨p, o, rfl, gup_same, ho, fun G2 => ?_⟩
        walk_at "go"
        exact hN _ _ ⟨_, rfl⟩
    · exact h.elim
def spV_law (K : PySem.W.Frag) : Sp := upSp K sp_law
theorem rds_ints {K : PySem.W.Frag} {H : Hp} {N : Ns} : ∀ ns : List Int, RDs K H N (ns.map D.int) (ns.map V.int)
  | [] => by simp only [List.map_nil, RDs]
  | n :: ns => by simp only [List.map_cons, RDs]; exact ⟨_, _, rfl, by simp only [RD], rds_ints ns⟩
theorem spV_at {K : PySem.W.Frag} {H : Hp} {a : Addr} {ns : List Int} (hl : ns.length ≤ 63) (hb : ∀ z ∈ ns, Builtin.Int.intBits z ≤ 1048576) (hS : SqL K H a (ns.map V.int)) : spV_law K [.ref a] H (fun v _ => v = .bl true) (fun _ _ _ => False) := by
  have hA : LstAt K H (fun _ => False) a (ns.map V.int) := by
    rcases hS with (h | h) | h
    · exact .inl ⟨h, fun z => z⟩
    · exact .inr (.inl h)
    · exact .inr (.inr h)
  refine ⟨[.lst (ns.map D.int)], fun _ => none, fun _ => False, fun d _ => d = .bl true, ?_, fun p o e => (by cases e), ⟨ns, rfl, hl, hb, fun _ => rfl⟩, fun d G' N' v H' hd _ r => ?_⟩
  · simp only [RDs]
    exact ⟨_, [], rfl, RD.lst hA (rds_ints ns), rfl⟩
  · subst hd
    exact r.of_bl
theorem all_mk {w : World} {K : PySem.W.Frag} {h : Heap} {mg : Str → Option Value} (X : K.In h) (G : h.Ns mainGlobals mg)
    {cX_LoftError : Addr} (aX_LoftError : PySem.W.nsIn K mainGlobals "LoftError" = some (some (.ref cX_LoftError))) (kX_LoftError : PySem.W.keepIn K (.ref cX_LoftError) = true) (bX_LoftError : PySem.W.subIn K (.ref cX_LoftError) (.type "BaseException") = some true) (tX_LoftError : PySem.W.typeIn K (.ref cX_LoftError) = some (.type "type")) (hX_LoftError : PySem.W.hasDictIn K cX_LoftError = true)
    {cX_TooMany : Addr} (aX_TooMany : PySem.W.nsIn K mainGlobals "TooMany" = some (some (.ref cX_TooMany))) (kX_TooMany : PySem.W.keepIn K (.ref cX_TooMany) = true) (bX_TooMany : PySem.W.subIn K (.ref cX_TooMany) (.type "BaseException") = some true) (tX_TooMany : PySem.W.typeIn K (.ref cX_TooMany) = some (.type "type")) (hX_TooMany : PySem.W.hasDictIn K cX_TooMany = true)
    {cX_NoRoom : Addr} (aX_NoRoom : PySem.W.nsIn K mainGlobals "NoRoom" = some (some (.ref cX_NoRoom))) (kX_NoRoom : PySem.W.keepIn K (.ref cX_NoRoom) = true) (bX_NoRoom : PySem.W.subIn K (.ref cX_NoRoom) (.type "BaseException") = some true) (tX_NoRoom : PySem.W.typeIn K (.ref cX_NoRoom) = some (.type "type")) (hX_NoRoom : PySem.W.hasDictIn K cX_NoRoom = true)
    {cX_NoRow : Addr} (aX_NoRow : PySem.W.nsIn K mainGlobals "NoRow" = some (some (.ref cX_NoRow))) (kX_NoRow : PySem.W.keepIn K (.ref cX_NoRow) = true) (bX_NoRow : PySem.W.subIn K (.ref cX_NoRow) (.type "BaseException") = some true) (tX_NoRow : PySem.W.typeIn K (.ref cX_NoRow) = some (.type "type")) (hX_NoRow : PySem.W.hasDictIn K cX_NoRow = true)
    (xX_NoRow : PySem.W.excIn K cX_NoRow [.type "ValueError", .type "Exception", .type "BaseException", .type "object"] "ValueError.__new__" = true)
    {cX_NoLoft : Addr} (aX_NoLoft : PySem.W.nsIn K mainGlobals "NoLoft" = some (some (.ref cX_NoLoft))) (kX_NoLoft : PySem.W.keepIn K (.ref cX_NoLoft) = true) (bX_NoLoft : PySem.W.subIn K (.ref cX_NoLoft) (.type "BaseException") = some true) (tX_NoLoft : PySem.W.typeIn K (.ref cX_NoLoft) = some (.type "type")) (hX_NoLoft : PySem.W.hasDictIn K cX_NoLoft = true)
    {cX_NoCells : Addr} (aX_NoCells : PySem.W.nsIn K mainGlobals "NoCells" = some (some (.ref cX_NoCells))) (kX_NoCells : PySem.W.keepIn K (.ref cX_NoCells) = true) (bX_NoCells : PySem.W.subIn K (.ref cX_NoCells) (.type "BaseException") = some true) (tX_NoCells : PySem.W.typeIn K (.ref cX_NoCells) = some (.type "type")) (hX_NoCells : PySem.W.hasDictIn K cX_NoCells = true)
    {cX_NotStill : Addr} (aX_NotStill : PySem.W.nsIn K mainGlobals "NotStill" = some (some (.ref cX_NotStill))) (kX_NotStill : PySem.W.keepIn K (.ref cX_NotStill) = true) (bX_NotStill : PySem.W.subIn K (.ref cX_NotStill) (.type "BaseException") = some true) (tX_NotStill : PySem.W.typeIn K (.ref cX_NotStill) = some (.type "type")) (hX_NotStill : PySem.W.hasDictIn K cX_NotStill = true)
    {cX_NoText : Addr} (aX_NoText : PySem.W.nsIn K mainGlobals "NoText" = some (some (.ref cX_NoText))) (kX_NoText : PySem.W.keepIn K (.ref cX_NoText) = true) (bX_NoText : PySem.W.subIn K (.ref cX_NoText) (.type "BaseException") = some true) (tX_NoText : PySem.W.typeIn K (.ref cX_NoText) = some (.type "type")) (hX_NoText : PySem.W.hasDictIn K cX_NoText = true)
    {cX_NoName : Addr} (aX_NoName : PySem.W.nsIn K mainGlobals "NoName" = some (some (.ref cX_NoName))) (kX_NoName : PySem.W.keepIn K (.ref cX_NoName) = true) (bX_NoName : PySem.W.subIn K (.ref cX_NoName) (.type "BaseException") = some true) (tX_NoName : PySem.W.typeIn K (.ref cX_NoName) = some (.type "type")) (hX_NoName : PySem.W.hasDictIn K cX_NoName = true)
    (sX_NoRow_LoftError : PySem.W.subIn K (.ref cX_NoRow) (.ref cX_LoftError) = some true)
    (en : PySem.W.specialIn K (.builtin "object.__class__") "__get__" = some (some (.builtin "getset_descriptor.__get__"))) (et : PySem.W.takesIn K (.builtin "object.__class__") = some true)
    (eg_NoRow : PySem.W.findIn K (.ref cX_NoRow) "__getattribute__" = some (some (.builtin "BaseException.__getattribute__"))) (ek_NoRow : PySem.W.findIn K (.ref cX_NoRow) "__getattr__" = some none) (ea_NoRow : PySem.W.findIn K (.ref cX_NoRow) "__class__" = some (some (.builtin "object.__class__"))) (em_NoRow : PySem.W.mroIn K cX_NoRow (.type "object") = some true) (es_NoRow : PySem.W.subIn K (.ref cX_NoRow) (.ref cX_NoRow) = some true)
    (eT_NoRow_TooMany : PySem.W.subIn K (.ref cX_NoRow) (.ref cX_TooMany) = some false)
    (eT_NoRow_NoRoom : PySem.W.subIn K (.ref cX_NoRow) (.ref cX_NoRoom) = some false)
    (eT_NoRow_NoRow : PySem.W.subIn K (.ref cX_NoRow) (.ref cX_NoRow) = some true)
    (eT_NoRow_NoLoft : PySem.W.subIn K (.ref cX_NoRow) (.ref cX_NoLoft) = some false)
    (eT_NoRow_NoCells : PySem.W.subIn K (.ref cX_NoRow) (.ref cX_NoCells) = some false)
    (eT_NoRow_NotStill : PySem.W.subIn K (.ref cX_NoRow) (.ref cX_NotStill) = some false)
    (eT_NoRow_NoText : PySem.W.subIn K (.ref cX_NoRow) (.ref cX_NoText) = some false)
    (eT_NoRow_NoName : PySem.W.subIn K (.ref cX_NoRow) (.ref cX_NoName) = some false)
    (eB_NoRow_ValueError : PySem.W.subIn K (.ref cX_NoRow) (.type "ValueError") = some true)
    {f0 : Addr} {od0 an0 : Option Addr} {sl0 : Array (Option Value)} {oc0 kV0 dc0 pm0 cd0 ct0 : Value}
    (a0 : PySem.W.nsIn K mainGlobals "nexts_of" = some (some (.ref f0)))
    (l0 : K.lookup f0 = some ⟨oc0, od0, .func (PySem.W.fnOf "nexts_of" "nexts_of" (defArgs s_nexts_of) (defBody s_nexts_of) (defScope s_nexts_of) .none kV0 dc0 pm0 an0 cd0 ct0), sl0⟩) (c0 : PySem.W.codeIn K cd0 "nexts_of" = true) (k0 : PySem.W.keepIn K (.ref f0) = true)
    {f1 : Addr} {od1 an1 : Option Addr} {sl1 : Array (Option Value)} {oc1 kV1 dc1 pm1 cd1 ct1 : Value}
    (a1 : PySem.W.nsIn K mainGlobals "is_unlike" = some (some (.ref f1)))
    (l1 : K.lookup f1 = some ⟨oc1, od1, .func (PySem.W.fnOf "is_unlike" "is_unlike" (defArgs s_is_unlike) (defBody s_is_unlike) (defScope s_is_unlike) .none kV1 dc1 pm1 an1 cd1 ct1), sl1⟩) (c1 : PySem.W.codeIn K cd1 "is_unlike" = true) (k1 : PySem.W.keepIn K (.ref f1) = true)
    {f2 : Addr} {od2 an2 : Option Addr} {sl2 : Array (Option Value)} {oc2 kV2 dc2 pm2 cd2 ct2 : Value}
    (a2 : PySem.W.nsIn K mainGlobals "parted" = some (some (.ref f2)))
    (l2 : K.lookup f2 = some ⟨oc2, od2, .func (PySem.W.fnOf "parted" "parted" (defArgs s_parted) (defBody s_parted) (defScope s_parted) .none kV2 dc2 pm2 an2 cd2 ct2), sl2⟩) (c2 : PySem.W.codeIn K cd2 "parted" = true) (k2 : PySem.W.keepIn K (.ref f2) = true)
    {f3 : Addr} {od3 an3 : Option Addr} {sl3 : Array (Option Value)} {oc3 kV3 dc3 pm3 cd3 ct3 : Value}
    (a3 : PySem.W.nsIn K mainGlobals "_law_bag" = some (some (.ref f3)))
    (l3 : K.lookup f3 = some ⟨oc3, od3, .func (PySem.W.fnOf "_law_bag" "_law_bag" (defArgs s__law_bag) (defBody s__law_bag) (defScope s__law_bag) .none kV3 dc3 pm3 an3 cd3 ct3), sl3⟩) (c3 : PySem.W.codeIn K cd3 "_law_bag" = true) (k3 : PySem.W.keepIn K (.ref f3) = true)
    {f4 : Addr} {od4 an4 : Option Addr} {sl4 : Array (Option Value)} {oc4 kV4 dc4 pm4 cd4 ct4 : Value}
    (a4 : PySem.W.nsIn K mainGlobals "_law_draw" = some (some (.ref f4)))
    (l4 : K.lookup f4 = some ⟨oc4, od4, .func (PySem.W.fnOf "_law_draw" "_law_draw" (defArgs s__law_draw) (defBody s__law_draw) (defScope s__law_draw) .none kV4 dc4 pm4 an4 cd4 ct4), sl4⟩) (c4 : PySem.W.codeIn K cd4 "_law_draw" = true) (k4 : PySem.W.keepIn K (.ref f4) = true)
    {f5 : Addr} {od5 an5 : Option Addr} {sl5 : Array (Option Value)} {oc5 kV5 dc5 pm5 cd5 ct5 : Value}
    (a5 : PySem.W.nsIn K mainGlobals "_law_top" = some (some (.ref f5)))
    (l5 : K.lookup f5 = some ⟨oc5, od5, .func (PySem.W.fnOf "_law_top" "_law_top" (defArgs s__law_top) (defBody s__law_top) (defScope s__law_top) .none kV5 dc5 pm5 an5 cd5 ct5), sl5⟩) (c5 : PySem.W.codeIn K cd5 "_law_top" = true) (k5 : PySem.W.keepIn K (.ref f5) = true)
    {f6 : Addr} {od6 an6 : Option Addr} {sl6 : Array (Option Value)} {oc6 kV6 dc6 pm6 cd6 ct6 : Value}
    (a6 : PySem.W.nsIn K mainGlobals "_law_place" = some (some (.ref f6)))
    (l6 : K.lookup f6 = some ⟨oc6, od6, .func (PySem.W.fnOf "_law_place" "_law_place" (defArgs s__law_place) (defBody s__law_place) (defScope s__law_place) .none kV6 dc6 pm6 an6 cd6 ct6), sl6⟩) (c6 : PySem.W.codeIn K cd6 "_law_place" = true) (k6 : PySem.W.keepIn K (.ref f6) = true)
    {f7 : Addr} {od7 an7 : Option Addr} {sl7 : Array (Option Value)} {oc7 kV7 dc7 pm7 cd7 ct7 : Value}
    (a7 : PySem.W.nsIn K mainGlobals "_law_word" = some (some (.ref f7)))
    (l7 : K.lookup f7 = some ⟨oc7, od7, .func (PySem.W.fnOf "_law_word" "_law_word" (defArgs s__law_word) (defBody s__law_word) (defScope s__law_word) .none kV7 dc7 pm7 an7 cd7 ct7), sl7⟩) (c7 : PySem.W.codeIn K cd7 "_law_word" = true) (k7 : PySem.W.keepIn K (.ref f7) = true)
    {f8 : Addr} {od8 an8 : Option Addr} {sl8 : Array (Option Value)} {oc8 kV8 dc8 pm8 cd8 ct8 : Value}
    (a8 : PySem.W.nsIn K mainGlobals "_law_place_text" = some (some (.ref f8)))
    (l8 : K.lookup f8 = some ⟨oc8, od8, .func (PySem.W.fnOf "_law_place_text" "_law_place_text" (defArgs s__law_place_text) (defBody s__law_place_text) (defScope s__law_place_text) .none kV8 dc8 pm8 an8 cd8 ct8), sl8⟩) (c8 : PySem.W.codeIn K cd8 "_law_place_text" = true) (k8 : PySem.W.keepIn K (.ref f8) = true)
    {f9 : Addr} {od9 an9 : Option Addr} {sl9 : Array (Option Value)} {oc9 kV9 dc9 pm9 cd9 ct9 : Value}
    (a9 : PySem.W.nsIn K mainGlobals "_law_order_text" = some (some (.ref f9)))
    (l9 : K.lookup f9 = some ⟨oc9, od9, .func (PySem.W.fnOf "_law_order_text" "_law_order_text" (defArgs s__law_order_text) (defBody s__law_order_text) (defScope s__law_order_text) .none kV9 dc9 pm9 an9 cd9 ct9), sl9⟩) (c9 : PySem.W.codeIn K cd9 "_law_order_text" = true) (k9 : PySem.W.keepIn K (.ref f9) = true)
    {f10 : Addr} {od10 an10 : Option Addr} {sl10 : Array (Option Value)} {oc10 kV10 dc10 pm10 cd10 ct10 : Value}
    (a10 : PySem.W.nsIn K mainGlobals "_law_key" = some (some (.ref f10)))
    (l10 : K.lookup f10 = some ⟨oc10, od10, .func (PySem.W.fnOf "_law_key" "_law_key" (defArgs s__law_key) (defBody s__law_key) (defScope s__law_key) .none kV10 dc10 pm10 an10 cd10 ct10), sl10⟩) (c10 : PySem.W.codeIn K cd10 "_law_key" = true) (k10 : PySem.W.keepIn K (.ref f10) = true)
    {f11 : Addr} {od11 an11 : Option Addr} {sl11 : Array (Option Value)} {oc11 kV11 dc11 pm11 cd11 ct11 : Value}
    (a11 : PySem.W.nsIn K mainGlobals "_law_to" = some (some (.ref f11)))
    (l11 : K.lookup f11 = some ⟨oc11, od11, .func (PySem.W.fnOf "_law_to" "_law_to" (defArgs s__law_to) (defBody s__law_to) (defScope s__law_to) .none kV11 dc11 pm11 an11 cd11 ct11), sl11⟩) (c11 : PySem.W.codeIn K cd11 "_law_to" = true) (k11 : PySem.W.keepIn K (.ref f11) = true)
    {f12 : Addr} {od12 an12 : Option Addr} {sl12 : Array (Option Value)} {oc12 kV12 dc12 pm12 cd12 ct12 : Value}
    (a12 : PySem.W.nsIn K mainGlobals "_law_order" = some (some (.ref f12)))
    (l12 : K.lookup f12 = some ⟨oc12, od12, .func (PySem.W.fnOf "_law_order" "_law_order" (defArgs s__law_order) (defBody s__law_order) (defScope s__law_order) .none kV12 dc12 pm12 an12 cd12 ct12), sl12⟩) (c12 : PySem.W.codeIn K cd12 "_law_order" = true) (k12 : PySem.W.keepIn K (.ref f12) = true)
    {f13 : Addr} {od13 an13 : Option Addr} {sl13 : Array (Option Value)} {oc13 kV13 dc13 pm13 cd13 ct13 : Value}
    (a13 : PySem.W.nsIn K mainGlobals "_law_orders" = some (some (.ref f13)))
    (l13 : K.lookup f13 = some ⟨oc13, od13, .func (PySem.W.fnOf "_law_orders" "_law_orders" (defArgs s__law_orders) (defBody s__law_orders) (defScope s__law_orders) .none kV13 dc13 pm13 an13 cd13 ct13), sl13⟩) (c13 : PySem.W.codeIn K cd13 "_law_orders" = true) (k13 : PySem.W.keepIn K (.ref f13) = true)
    {f14 : Addr} {od14 an14 : Option Addr} {sl14 : Array (Option Value)} {oc14 kV14 dc14 pm14 cd14 ct14 : Value}
    (a14 : PySem.W.nsIn K mainGlobals "_law_few" = some (some (.ref f14)))
    (l14 : K.lookup f14 = some ⟨oc14, od14, .func (PySem.W.fnOf "_law_few" "_law_few" (defArgs s__law_few) (defBody s__law_few) (defScope s__law_few) .none kV14 dc14 pm14 an14 cd14 ct14), sl14⟩) (c14 : PySem.W.codeIn K cd14 "_law_few" = true) (k14 : PySem.W.keepIn K (.ref f14) = true)
    {f15 : Addr} {od15 an15 : Option Addr} {sl15 : Array (Option Value)} {oc15 kV15 dc15 pm15 cd15 ct15 : Value}
    (a15 : PySem.W.nsIn K mainGlobals "_law_chain" = some (some (.ref f15)))
    (l15 : K.lookup f15 = some ⟨oc15, od15, .func (PySem.W.fnOf "_law_chain" "_law_chain" (defArgs s__law_chain) (defBody s__law_chain) (defScope s__law_chain) .none kV15 dc15 pm15 an15 cd15 ct15), sl15⟩) (c15 : PySem.W.codeIn K cd15 "_law_chain" = true) (k15 : PySem.W.keepIn K (.ref f15) = true)
    {f16 : Addr} {od16 an16 : Option Addr} {sl16 : Array (Option Value)} {oc16 kV16 dc16 pm16 cd16 ct16 : Value}
    (a16 : PySem.W.nsIn K mainGlobals "_law_names" = some (some (.ref f16)))
    (l16 : K.lookup f16 = some ⟨oc16, od16, .func (PySem.W.fnOf "_law_names" "_law_names" (defArgs s__law_names) (defBody s__law_names) (defScope s__law_names) .none kV16 dc16 pm16 an16 cd16 ct16), sl16⟩) (c16 : PySem.W.codeIn K cd16 "_law_names" = true) (k16 : PySem.W.keepIn K (.ref f16) = true)
    {f17 : Addr} {od17 an17 : Option Addr} {sl17 : Array (Option Value)} {oc17 kV17 dc17 pm17 cd17 ct17 : Value}
    (a17 : PySem.W.nsIn K mainGlobals "_law_put" = some (some (.ref f17)))
    (l17 : K.lookup f17 = some ⟨oc17, od17, .func (PySem.W.fnOf "_law_put" "_law_put" (defArgs s__law_put) (defBody s__law_put) (defScope s__law_put) .none kV17 dc17 pm17 an17 cd17 ct17), sl17⟩) (c17 : PySem.W.codeIn K cd17 "_law_put" = true) (k17 : PySem.W.keepIn K (.ref f17) = true)
    {f18 : Addr} {od18 an18 : Option Addr} {sl18 : Array (Option Value)} {oc18 kV18 dc18 pm18 cd18 ct18 : Value}
    (a18 : PySem.W.nsIn K mainGlobals "_law_laid" = some (some (.ref f18)))
    (l18 : K.lookup f18 = some ⟨oc18, od18, .func (PySem.W.fnOf "_law_laid" "_law_laid" (defArgs s__law_laid) (defBody s__law_laid) (defScope s__law_laid) .none kV18 dc18 pm18 an18 cd18 ct18), sl18⟩) (c18 : PySem.W.codeIn K cd18 "_law_laid" = true) (k18 : PySem.W.keepIn K (.ref f18) = true)
    {f19 : Addr} {od19 an19 : Option Addr} {sl19 : Array (Option Value)} {oc19 kV19 dc19 pm19 cd19 ct19 : Value}
    (a19 : PySem.W.nsIn K mainGlobals "_law_asked" = some (some (.ref f19)))
    (l19 : K.lookup f19 = some ⟨oc19, od19, .func (PySem.W.fnOf "_law_asked" "_law_asked" (defArgs s__law_asked) (defBody s__law_asked) (defScope s__law_asked) .none kV19 dc19 pm19 an19 cd19 ct19), sl19⟩) (c19 : PySem.W.codeIn K cd19 "_law_asked" = true) (k19 : PySem.W.keepIn K (.ref f19) = true)
    {f20 : Addr} {od20 an20 : Option Addr} {sl20 : Array (Option Value)} {oc20 kV20 dc20 pm20 cd20 ct20 : Value}
    (a20 : PySem.W.nsIn K mainGlobals "_law_right" = some (some (.ref f20)))
    (l20 : K.lookup f20 = some ⟨oc20, od20, .func (PySem.W.fnOf "_law_right" "_law_right" (defArgs s__law_right) (defBody s__law_right) (defScope s__law_right) .none kV20 dc20 pm20 an20 cd20 ct20), sl20⟩) (c20 : PySem.W.codeIn K cd20 "_law_right" = true) (k20 : PySem.W.keepIn K (.ref f20) = true)
    {f21 : Addr} {od21 an21 : Option Addr} {sl21 : Array (Option Value)} {oc21 kV21 dc21 pm21 cd21 ct21 : Value}
    (a21 : PySem.W.nsIn K mainGlobals "law" = some (some (.ref f21)))
    (l21 : K.lookup f21 = some ⟨oc21, od21, .func (PySem.W.fnOf "law" "law" (defArgs s_law) (defBody s_law) (defScope s_law) .none kV21 dc21 pm21 an21 cd21 ct21), sl21⟩) (c21 : PySem.W.codeIn K cd21 "law" = true) (k21 : PySem.W.keepIn K (.ref f21) = true)
    (z_ValueError : PySem.W.nsIn K mainGlobals "ValueError" = some none)
    (z_int : PySem.W.nsIn K mainGlobals "int" = some none)
    (z_isinstance : PySem.W.nsIn K mainGlobals "isinstance" = some none)
    (z_len : PySem.W.nsIn K mainGlobals "len" = some none)
    (z_list : PySem.W.nsIn K mainGlobals "list" = some none)
    (z_max : PySem.W.nsIn K mainGlobals "max" = some none)
    (z_min : PySem.W.nsIn K mainGlobals "min" = some none)
    (z_range : PySem.W.nsIn K mainGlobals "range" = some none)
    (z_sorted : PySem.W.nsIn K mainGlobals "sorted" = some none)
    (z_str : PySem.W.nsIn K mainGlobals "str" = some none)
    (z_tuple : PySem.W.nsIn K mainGlobals "tuple" = some none)
    (z_zip : PySem.W.nsIn K mainGlobals "zip" = some none)
    : ∃ a : Ad, Tx w K mg a ∧ mg "law" = some (.ref a.f_law) ∧ ∀ (s : Shared) (v : Value), BindsTo s a.fd_law ⟨[v], []⟩ [("script", v)] := by
  refine ⟨⟨f0, PySem.W.fnOf "nexts_of" "nexts_of" (defArgs s_nexts_of) (defBody s_nexts_of) (defScope s_nexts_of) .none kV0 dc0 pm0 an0 cd0 ct0, f1, PySem.W.fnOf "is_unlike" "is_unlike" (defArgs s_is_unlike) (defBody s_is_unlike) (defScope s_is_unlike) .none kV1 dc1 pm1 an1 cd1 ct1, f2, PySem.W.fnOf "parted" "parted" (defArgs s_parted) (defBody s_parted) (defScope s_parted) .none kV2 dc2 pm2 an2 cd2 ct2, f3, PySem.W.fnOf "_law_bag" "_law_bag" (defArgs s__law_bag) (defBody s__law_bag) (defScope s__law_bag) .none kV3 dc3 pm3 an3 cd3 ct3, f4, PySem.W.fnOf "_law_draw" "_law_draw" (defArgs s__law_draw) (defBody s__law_draw) (defScope s__law_draw) .none kV4 dc4 pm4 an4 cd4 ct4, f5, PySem.W.fnOf "_law_top" "_law_top" (defArgs s__law_top) (defBody s__law_top) (defScope s__law_top) .none kV5 dc5 pm5 an5 cd5 ct5, f6, PySem.W.fnOf "_law_place" "_law_place" (defArgs s__law_place) (defBody s__law_place) (defScope s__law_place) .none kV6 dc6 pm6 an6 cd6 ct6, f7, PySem.W.fnOf "_law_word" "_law_word" (defArgs s__law_word) (defBody s__law_word) (defScope s__law_word) .none kV7 dc7 pm7 an7 cd7 ct7, f8, PySem.W.fnOf "_law_place_text" "_law_place_text" (defArgs s__law_place_text) (defBody s__law_place_text) (defScope s__law_place_text) .none kV8 dc8 pm8 an8 cd8 ct8, f9, PySem.W.fnOf "_law_order_text" "_law_order_text" (defArgs s__law_order_text) (defBody s__law_order_text) (defScope s__law_order_text) .none kV9 dc9 pm9 an9 cd9 ct9, f10, PySem.W.fnOf "_law_key" "_law_key" (defArgs s__law_key) (defBody s__law_key) (defScope s__law_key) .none kV10 dc10 pm10 an10 cd10 ct10, f11, PySem.W.fnOf "_law_to" "_law_to" (defArgs s__law_to) (defBody s__law_to) (defScope s__law_to) .none kV11 dc11 pm11 an11 cd11 ct11, f12, PySem.W.fnOf "_law_order" "_law_order" (defArgs s__law_order) (defBody s__law_order) (defScope s__law_order) .none kV12 dc12 pm12 an12 cd12 ct12, f13, PySem.W.fnOf "_law_orders" "_law_orders" (defArgs s__law_orders) (defBody s__law_orders) (defScope s__law_orders) .none kV13 dc13 pm13 an13 cd13 ct13, f14, PySem.W.fnOf "_law_few" "_law_few" (defArgs s__law_few) (defBody s__law_few) (defScope s__law_few) .none kV14 dc14 pm14 an14 cd14 ct14, f15, PySem.W.fnOf "_law_chain" "_law_chain" (defArgs s__law_chain) (defBody s__law_chain) (defScope s__law_chain) .none kV15 dc15 pm15 an15 cd15 ct15, f16, PySem.W.fnOf "_law_names" "_law_names" (defArgs s__law_names) (defBody s__law_names) (defScope s__law_names) .none kV16 dc16 pm16 an16 cd16 ct16, f17, PySem.W.fnOf "_law_put" "_law_put" (defArgs s__law_put) (defBody s__law_put) (defScope s__law_put) .none kV17 dc17 pm17 an17 cd17 ct17, f18, PySem.W.fnOf "_law_laid" "_law_laid" (defArgs s__law_laid) (defBody s__law_laid) (defScope s__law_laid) .none kV18 dc18 pm18 an18 cd18 ct18, f19, PySem.W.fnOf "_law_asked" "_law_asked" (defArgs s__law_asked) (defBody s__law_asked) (defScope s__law_asked) .none kV19 dc19 pm19 an19 cd19 ct19, f20, PySem.W.fnOf "_law_right" "_law_right" (defArgs s__law_right) (defBody s__law_right) (defScope s__law_right) .none kV20 dc20 pm20 an20 cd20 ct20, f21, PySem.W.fnOf "law" "law" (defArgs s_law) (defBody s_law) (defScope s_law) .none kV21 dc21 pm21 an21 cd21 ct21, cX_LoftError, cX_TooMany, cX_NoRoom, cX_NoRow, cX_NoLoft, cX_NoCells, cX_NotStill, cX_NoText, cX_NoName⟩, ?_, PySem.W.mg_of X G a21, fun s v => .of_eq rfl⟩
  exact ⟨fun_mk (st := s_nexts_of) l0 c0 k0, (fun_mk (st := s_nexts_of) l0 c0 k0).binds (fun _ _ _ _ _ _ us hl => match us, hl with | [_], _ => rfl), PySem.W.mg_of X G a0,
    fun_mk (st := s_is_unlike) l1 c1 k1, (fun_mk (st := s_is_unlike) l1 c1 k1).binds (fun _ _ _ _ _ _ us hl => match us, hl with | [_, _], _ => rfl), PySem.W.mg_of X G a1,
    fun_mk (st := s_parted) l2 c2 k2, (fun_mk (st := s_parted) l2 c2 k2).binds (fun _ _ _ _ _ _ us hl => match us, hl with | [_, _, _], _ => rfl), PySem.W.mg_of X G a2,
    fun_mk (st := s__law_bag) l3 c3 k3, (fun_mk (st := s__law_bag) l3 c3 k3).binds (fun _ _ _ _ _ _ us hl => match us, hl with | [_, _], _ => rfl), PySem.W.mg_of X G a3,
    fun_mk (st := s__law_draw) l4 c4 k4, (fun_mk (st := s__law_draw) l4 c4 k4).binds (fun _ _ _ _ _ _ us hl => match us, hl with | [_, _], _ => rfl), PySem.W.mg_of X G a4,
    fun_mk (st := s__law_top) l5 c5 k5, (fun_mk (st := s__law_top) l5 c5 k5).binds (fun _ _ _ _ _ _ us hl => match us, hl with | [_], _ => rfl), PySem.W.mg_of X G a5,
    fun_mk (st := s__law_place) l6 c6 k6, (fun_mk (st := s__law_place) l6 c6 k6).binds (fun _ _ _ _ _ _ us hl => match us, hl with | [_, _], _ => rfl), PySem.W.mg_of X G a6,
    fun_mk (st := s__law_word) l7 c7 k7, (fun_mk (st := s__law_word) l7 c7 k7).binds (fun _ _ _ _ _ _ us hl => match us, hl with | [_, _], _ => rfl), PySem.W.mg_of X G a7,
    fun_mk (st := s__law_place_text) l8 c8 k8, (fun_mk (st := s__law_place_text) l8 c8 k8).binds (fun _ _ _ _ _ _ us hl => match us, hl with | [_], _ => rfl), PySem.W.mg_of X G a8,
    fun_mk (st := s__law_order_text) l9 c9 k9, (fun_mk (st := s__law_order_text) l9 c9 k9).binds (fun _ _ _ _ _ _ us hl => match us, hl with | [_], _ => rfl), PySem.W.mg_of X G a9,
    fun_mk (st := s__law_key) l10 c10 k10, (fun_mk (st := s__law_key) l10 c10 k10).binds (fun _ _ _ _ _ _ us hl => match us, hl with | [_], _ => rfl), PySem.W.mg_of X G a10,
    fun_mk (st := s__law_to) l11 c11 k11, (fun_mk (st := s__law_to) l11 c11 k11).binds (fun _ _ _ _ _ _ us hl => match us, hl with | [_], _ => rfl), PySem.W.mg_of X G a11,
    fun_mk (st := s__law_order) l12 c12 k12, (fun_mk (st := s__law_order) l12 c12 k12).binds (fun _ _ _ _ _ _ us hl => match us, hl with | [_, _, _], _ => rfl), PySem.W.mg_of X G a12,
    fun_mk (st := s__law_orders) l13 c13 k13, (fun_mk (st := s__law_orders) l13 c13 k13).binds (fun _ _ _ _ _ _ us hl => match us, hl with | [_, _], _ => rfl), PySem.W.mg_of X G a13,
    fun_mk (st := s__law_few) l14 c14 k14, (fun_mk (st := s__law_few) l14 c14 k14).binds (fun _ _ _ _ _ _ us hl => match us, hl with | [_], _ => rfl), PySem.W.mg_of X G a14,
    fun_mk (st := s__law_chain) l15 c15 k15, (fun_mk (st := s__law_chain) l15 c15 k15).binds (fun _ _ _ _ _ _ us hl => match us, hl with | [_, _, _, _], _ => rfl), PySem.W.mg_of X G a15,
    fun_mk (st := s__law_names) l16 c16 k16, (fun_mk (st := s__law_names) l16 c16 k16).binds (fun _ _ _ _ _ _ us hl => match us, hl with | [_, _], _ => rfl), PySem.W.mg_of X G a16,
    fun_mk (st := s__law_put) l17 c17 k17, (fun_mk (st := s__law_put) l17 c17 k17).binds (fun _ _ _ _ _ _ us hl => match us, hl with | [_, _], _ => rfl), PySem.W.mg_of X G a17,
    fun_mk (st := s__law_laid) l18 c18 k18, (fun_mk (st := s__law_laid) l18 c18 k18).binds (fun _ _ _ _ _ _ us hl => match us, hl with | [_, _, _], _ => rfl), PySem.W.mg_of X G a18,
    fun_mk (st := s__law_asked) l19 c19 k19, (fun_mk (st := s__law_asked) l19 c19 k19).binds (fun _ _ _ _ _ _ us hl => match us, hl with | [_, _, _], _ => rfl), PySem.W.mg_of X G a19,
    fun_mk (st := s__law_right) l20 c20 k20, (fun_mk (st := s__law_right) l20 c20 k20).binds (fun _ _ _ _ _ _ us hl => match us, hl with | [_], _ => rfl), PySem.W.mg_of X G a20,
    fun_mk (st := s_law) l21 c21 k21, (fun_mk (st := s_law) l21 c21 k21).binds (fun _ _ _ _ _ _ us hl => match us, hl with | [_], _ => rfl), PySem.W.mg_of X G a21,
    PySem.W.mg_none_of X G z_ValueError,
    PySem.W.mg_none_of X G z_int,
    PySem.W.mg_none_of X G z_isinstance,
    PySem.W.mg_none_of X G z_len,
    PySem.W.mg_none_of X G z_list,
    PySem.W.mg_none_of X G z_max,
    PySem.W.mg_none_of X G z_min,
    PySem.W.mg_none_of X G z_range,
    PySem.W.mg_none_of X G z_sorted,
    PySem.W.mg_none_of X G z_str,
    PySem.W.mg_none_of X G z_tuple,
    PySem.W.mg_none_of X G z_zip,
    PySem.W.mg_of X G aX_LoftError, kX_LoftError, bX_LoftError, tX_LoftError, hX_LoftError,
    PySem.W.mg_of X G aX_TooMany, kX_TooMany, bX_TooMany, tX_TooMany, hX_TooMany,
    PySem.W.mg_of X G aX_NoRoom, kX_NoRoom, bX_NoRoom, tX_NoRoom, hX_NoRoom,
    PySem.W.mg_of X G aX_NoRow, kX_NoRow, bX_NoRow, tX_NoRow, hX_NoRow,
    xX_NoRow,
    PySem.W.mg_of X G aX_NoLoft, kX_NoLoft, bX_NoLoft, tX_NoLoft, hX_NoLoft,
    PySem.W.mg_of X G aX_NoCells, kX_NoCells, bX_NoCells, tX_NoCells, hX_NoCells,
    PySem.W.mg_of X G aX_NotStill, kX_NotStill, bX_NotStill, tX_NotStill, hX_NotStill,
    PySem.W.mg_of X G aX_NoText, kX_NoText, bX_NoText, tX_NoText, hX_NoText,
    PySem.W.mg_of X G aX_NoName, kX_NoName, bX_NoName, tX_NoName, hX_NoName,
    PySem.W.exm_ref bX_LoftError hX_LoftError tX_LoftError sX_NoRow_LoftError,
    ⟨eg_NoRow, ek_NoRow, bX_NoRow, hX_NoRow, ea_NoRow, en, et, em_NoRow⟩,
    kit_no hX_TooMany tX_TooMany eT_NoRow_TooMany es_NoRow,
    kit_no hX_NoRoom tX_NoRoom eT_NoRow_NoRoom es_NoRow,
    kit_yes hX_NoRow tX_NoRow eT_NoRow_NoRow,
    kit_no hX_NoLoft tX_NoLoft eT_NoRow_NoLoft es_NoRow,
    kit_no hX_NoCells tX_NoCells eT_NoRow_NoCells es_NoRow,
    kit_no hX_NotStill tX_NotStill eT_NoRow_NotStill es_NoRow,
    kit_no hX_NoText tX_NoText eT_NoRow_NoText es_NoRow,
    kit_no hX_NoName tX_NoName eT_NoRow_NoName es_NoRow,
    kit_tyB (by decide +kernel) eB_NoRow_ValueError⟩
end K52
open PySem PySem.W PyProof.Rows
set_option maxHeartbeats 0 in
theorem PySem.Challenge.cw_steploft_k52_rows_that_are_none_holds : PySem.Challenge.rw_steploft_k52_rows_that_are_none.Holds := by
  w_on; o_law; k_head; (case hw => w_witness2)
  k_fill
  refine L2.walk_ofB (l := PySem.Challenge.rw_steploft_k52_rows_that_are_none) (n := 63) (k := 9) (x := "script") (CX := fun _ => L2.CX0) (sp := fun w => K52.spV_law _) rfl (by decide) rfl ⟨rfl, by decide, by decide⟩ (fun w h Y => PySem.W.kIn_of Y) ?F (fun _ H a ns hl hb _ hS => K52.spV_at hl hb hS) (fun _ _ _ _ _ h => h)
  case F =>
    intro w mg fa h KX G hmg
    have z := DL.at_K KX (fun K' => ∃ a : K52.Ad, K52.Tx w K' mg a ∧ mg "law" = some (.ref a.f_law) ∧ ∀ (s : Shared) (v : Value), BindsTo s a.fd_law ⟨[v], []⟩ [("script", v)]) (by
      refine' K52.all_mk KX G ?aX_LoftError ?kX_LoftError ?bX_LoftError ?tX_LoftError ?hX_LoftError ?aX_TooMany ?kX_TooMany ?bX_TooMany ?tX_TooMany ?hX_TooMany ?aX_NoRoom ?kX_NoRoom ?bX_NoRoom ?tX_NoRoom ?hX_NoRoom ?aX_NoRow ?kX_NoRow ?bX_NoRow ?tX_NoRow ?hX_NoRow ?xX_NoRow ?aX_NoLoft ?kX_NoLoft ?bX_NoLoft ?tX_NoLoft ?hX_NoLoft ?aX_NoCells ?kX_NoCells ?bX_NoCells ?tX_NoCells ?hX_NoCells ?aX_NotStill ?kX_NotStill ?bX_NotStill ?tX_NotStill ?hX_NotStill ?aX_NoText ?kX_NoText ?bX_NoText ?tX_NoText ?hX_NoText ?aX_NoName ?kX_NoName ?bX_NoName ?tX_NoName ?hX_NoName ?sX_NoRow_LoftError ?en ?et ?eg_NoRow ?ek_NoRow ?ea_NoRow ?em_NoRow ?es_NoRow ?eT_NoRow_TooMany ?eT_NoRow_NoRoom ?eT_NoRow_NoRow ?eT_NoRow_NoLoft ?eT_NoRow_NoCells ?eT_NoRow_NotStill ?eT_NoRow_NoText ?eT_NoRow_NoName ?eB_NoRow_ValueError ?a0 ?l0 ?c0 ?k0 ?a1 ?l1 ?c1 ?k1 ?a2 ?l2 ?c2 ?k2 ?a3 ?l3 ?c3 ?k3 ?a4 ?l4 ?c4 ?k4 ?a5 ?l5 ?c5 ?k5 ?a6 ?l6 ?c6 ?k6 ?a7 ?l7 ?c7 ?k7 ?a8 ?l8 ?c8 ?k8 ?a9 ?l9 ?c9 ?k9 ?a10 ?l10 ?c10 ?k10 ?a11 ?l11 ?c11 ?k11 ?a12 ?l12 ?c12 ?k12 ?a13 ?l13 ?c13 ?k13 ?a14 ?l14 ?c14 ?k14 ?a15 ?l15 ?c15 ?k15 ?a16 ?l16 ?c16 ?k16 ?a17 ?l17 ?c17 ?k17 ?a18 ?l18 ?c18 ?k18 ?a19 ?l19 ?c19 ?k19 ?a20 ?l20 ?c20 ?k20 ?a21 ?l21 ?c21 ?k21 ?z_ValueError ?z_int ?z_isinstance ?z_len ?z_list ?z_max ?z_min ?z_range ?z_sorted ?z_str ?z_tuple ?z_zip
      (case aX_LoftError => k_is); (case kX_LoftError => k_is); (case bX_LoftError => k_is); (case tX_LoftError => k_is); (case hX_LoftError => k_is); (case aX_TooMany => k_is); (case kX_TooMany => k_is); (case bX_TooMany => k_is); (case tX_TooMany => k_is); (case hX_TooMany => k_is); (case aX_NoRoom => k_is); (case kX_NoRoom => k_is); (case bX_NoRoom => k_is); (case tX_NoRoom => k_is); (case hX_NoRoom => k_is); (case aX_NoRow => k_is); (case kX_NoRow => k_is); (case bX_NoRow => k_is); (case tX_NoRow => k_is); (case hX_NoRow => k_is); (case xX_NoRow => k_exc); (case aX_NoLoft => k_is); (case kX_NoLoft => k_is); (case bX_NoLoft => k_is); (case tX_NoLoft => k_is); (case hX_NoLoft => k_is); (case aX_NoCells => k_is); (case kX_NoCells => k_is); (case bX_NoCells => k_is); (case tX_NoCells => k_is); (case hX_NoCells => k_is); (case aX_NotStill => k_is); (case kX_NotStill => k_is); (case bX_NotStill => k_is); (case tX_NotStill => k_is); (case hX_NotStill => k_is); (case aX_NoText => k_is); (case kX_NoText => k_is); (case bX_NoText => k_is); (case tX_NoText => k_is); (case hX_NoText => k_is); (case aX_NoName => k_is); (case kX_NoName => k_is); (case bX_NoName => k_is); (case tX_NoName => k_is); (case hX_NoName => k_is); (case sX_NoRow_LoftError => k_is); (case en => k_is); (case et => k_is); (case eg_NoRow => k_is); (case ek_NoRow => k_is); (case ea_NoRow => k_is); (case em_NoRow => first | rfl | k_is); (case es_NoRow => first | rfl | k_is); (case eT_NoRow_TooMany => first | rfl | k_is); (case eT_NoRow_NoRoom => first | rfl | k_is); (case eT_NoRow_NoRow => first | rfl | k_is); (case eT_NoRow_NoLoft => first | rfl | k_is); (case eT_NoRow_NoCells => first | rfl | k_is); (case eT_NoRow_NotStill => first | rfl | k_is); (case eT_NoRow_NoText => first | rfl | k_is); (case eT_NoRow_NoName => first | rfl | k_is); (case eB_NoRow_ValueError => first | rfl | k_is); (case a0 => k_is); (case l0 => k_is); (case c0 => k_is); (case k0 => k_is); (case a1 => k_is); (case l1 => k_is); (case c1 => k_is); (case k1 => k_is); (case a2 => k_is); (case l2 => k_is); (case c2 => k_is); (case k2 => k_is); (case a3 => k_is); (case l3 => k_is); (case c3 => k_is); (case k3 => k_is); (case a4 => k_is); (case l4 => k_is); (case c4 => k_is); (case k4 => k_is); (case a5 => k_is); (case l5 => k_is); (case c5 => k_is); (case k5 => k_is); (case a6 => k_is); (case l6 => k_is); (case c6 => k_is); (case k6 => k_is); (case a7 => k_is); (case l7 => k_is); (case c7 => k_is); (case k7 => k_is); (case a8 => k_is); (case l8 => k_is); (case c8 => k_is); (case k8 => k_is); (case a9 => k_is); (case l9 => k_is); (case c9 => k_is); (case k9 => k_is); (case a10 => k_is); (case l10 => k_is); (case c10 => k_is); (case k10 => k_is); (case a11 => k_is); (case l11 => k_is); (case c11 => k_is); (case k11 => k_is); (case a12 => k_is); (case l12 => k_is); (case c12 => k_is); (case k12 => k_is); (case a13 => k_is); (case l13 => k_is); (case c13 => k_is); (case k13 => k_is); (case a14 => k_is); (case l14 => k_is); (case c14 => k_is); (case k14 => k_is); (case a15 => k_is); (case l15 => k_is); (case c15 => k_is); (case k15 => k_is); (case a16 => k_is); (case l16 => k_is); (case c16 => k_is); (case k16 => k_is); (case a17 => k_is); (case l17 => k_is); (case c17 => k_is); (case k17 => k_is); (case a18 => k_is); (case l18 => k_is); (case c18 => k_is); (case k18 => k_is); (case a19 => k_is); (case l19 => k_is); (case c19 => k_is); (case k19 => k_is); (case a20 => k_is); (case l20 => k_is); (case c20 => k_is); (case k20 => k_is); (case a21 => k_is); (case l21 => k_is); (case c21 => k_is); (case k21 => k_is); (case z_ValueError => k_is); (case z_int => k_is); (case z_isinstance => k_is); (case z_len => k_is); (case z_list => k_is); (case z_max => k_is); (case z_min => k_is); (case z_range => k_is); (case z_sorted => k_is); (case z_str => k_is); (case z_tuple => k_is); (case z_zip => k_is))
    obtain ⟨a, T, hm, hb⟩ := z
    have e := hmg.symm.trans hm
    cases e
    exact ⟨_, hb, fun base _ _ => K52.ok_law T⟩




