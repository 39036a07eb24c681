import PyProof.Rows.All
import Wide.All
import OpenK.AllK
import Wide.FinOn
import HandS.ForMost
import HandS.Wide
import HandS.WideBits
import HandS.TupAny
import HandS.IsInst
import HandS.Style
import HandS.Strs
import HandS.Zip
import HandS.EndBits
import KE.KUnpackStar
import HandS.More
import KE.GoesNew
import KE.GoesMore
import KE.GoesEnum
import PyProof.EqKinds
import PyProof.FactsAll.dict_1
import PyProof.FactsAll.subtypes_3
import PyProof.FactsAll.subtypes_4
import PyProof.Rows.EqBoolInt
import KE.SortKeyed
import HandS.SortKw
import HandS.Deep
import KE.DataFind
import KE.DataCmp
import HandS.CallLocal
import PyProof.FitsInt
import HandS.RaiseMore
import PyProof.TupleKey
import HandS.TupSets
import PyProof.SumAny
import HandS.NoneIn
import HandS.Conv
import KE.DatumOrd
import PyProof.MaxThree
import KE.KDictZip
import HandS.Small
import PyProof.Rows.TupAdd
import KE.SortData
import KE.KDictList
import KE.KDictPairs
import HandS.ExcCtx
import HandS.ExcOwn
import HandS.TryOnly
import HandS.WordsExc
import HandS.DictComp
import KE.KAsSuite
import HandS.TryMany
import HandS.ExcIs
import HandS.ExcValue
import HandS.TupLen
import KE.KDictCopyH
import HandS.TupMul
import HandS.FStr
import HandS.Finally
import PySem.Challenge.RW_steploft_k68_which_words_differ
set_option Elab.async false
set_option linter.all false
set_option maxRecDepth 100000
set_option maxHeartbeats 4000000
namespace DL
open PySem PySem.Spec PyProof.Rows L2
set_option autoImplicit false

/-! ### data -/
/-- data: lst is a list that nobody changes any more; ref a thing that G knows (or that doesn't matter); any: some thing of this type -/
inductive D where
  | non | bl (b : Bool) | int (i : Int) | str (x : Str) | ty (n : String) | ref (a : Addr) | any (n : String) | nt (zs : List Str) | tup (ds : List D) | lst (ds : List D)
/-- what stands at an address, by data -/
inductive GO where
  | lst (ds : List D) | dK (kvs : List (Key × D)) | dT (kvs : List (List Key × D)) | ins (C dx : Addr) (fs : List (Str × D)) | dX (ok : List (D × D) → Prop) (hs : D → Int) (kvs : List (D × D)) | ex (cls : Value) (fs : List (Str × D))
abbrev Gp := Addr → Option GO
def gup (G : Gp) (a : Addr) (o : GO) : Gp := fun b => if b = a then some o else G b
theorem gup_same {G : Gp} {a : Addr} {o : GO} : gup G a o a = some o := by unfold gup; rw [if_pos rfl]
theorem gup_ne {G : Gp} {a b : Addr} {o : GO} (h : b ≠ a) : gup G a o b = G b := by unfold gup; rw [if_neg h]
theorem gup_gup {G : Gp} {a : Addr} {o u : GO} : gup (gup G a o) a u = gup G a u := by
  funext b; unfold gup; split <;> rfl
theorem gne {G : Gp} {a b : Addr} {o : GO} (h : G a = some o) (h' : G b = none) : a ≠ b := by
  intro e; subst e; rw [h] at h'; cases h'
def knd : HO → String
  | .lst _ => "list" | .tup _ => "tuple" | .dK _ => "dict" | .dT _ => "dict" | .set _ _ => "set" | .ins _ _ _ => "ins" | .frz _ (.lst _) => "list" | .frz _ (.tup _) => "tuple" | .frz _ (.dK _) => "dict" | _ => ""
abbrev Ns := Addr → Prop
def nadd (N : Ns) (p : Addr) : Ns := fun q => q = p ∨ N q
def ndel (N : Ns) (p : Addr) : Ns := fun q => q ≠ p ∧ N q
/-- a list that nobody changes: N tells the addresses of which this is not said -/
def LstAt (K : PySem.W.Frag) (H : Hp) (N : Ns) (a : Addr) (xs : List V) : Prop :=
  (H a = some (.lst xs) ∧ ¬ N a) ∨ (∃ o, H a = some (.frz o (.lst xs))) ∨ ∃ (o : Obj) (its : Array Value) (n : Nat), K.lookup a = some o ∧ o.cls = .type "list" ∧ o.dict = none ∧ o.data = .seq its n ∧ its.size ≤ sizeLine ∧ Vals xs its.toList
theorem LstAt.sq {K : PySem.W.Frag} {H : Hp} {N : Ns} {a : Addr} {xs : List V} (h : LstAt K H N a xs) : SqL K H a xs := by
  rcases h with h | h | h
  · exact .inl (.inl h.1)
  · exact .inl (.inr h)
  · exact .inr h
/-- a tuple of texts of which it is known that it has no dict (its methods may be called) -/
def NtAt (K : PySem.W.Frag) (H : Hp) (p : Addr) (zs : List Str) : Prop :=
  (∃ o, H p = some (.frz o (.tup (zs.map V.str))) ∧ o.cls = .type "tuple" ∧ o.dict = none) ∨ ∃ (o : Obj) (its : Array Value) (n : Nat), K.lookup p = some o ∧ o.cls = .type "tuple" ∧ o.dict = none ∧ o.data = .seq its n ∧ its.size ≤ sizeLine ∧ Vals (zs.map V.str) its.toList
theorem NtAt.sq {K : PySem.W.Frag} {H : Hp} {p : Addr} {zs : List Str} (h : NtAt K H p zs) : SqT K H p (zs.map V.str) := by
  rcases h with ⟨o, h, _⟩ | ⟨o, its, n, h1, h2, h3, h4, h5, h6⟩
  · exact .inl (.inr ⟨o, h⟩)
  · exact .inr ⟨o, its, n, h1, h2, h4, h5, h6⟩
mutual
def RD (K : PySem.W.Frag) (H : Hp) (N : Ns) : D → V → Prop
  | .non, v => v = .non
  | .bl b, v => v = .bl b
  | .int i, v => v = .int i
  | .str x, v => v = .str x
  | .ty n, v => v = .ty n
  | .ref a, v => v = .ref a
  | .any n, v => ∃ a u, v = .ref a ∧ H a = some u ∧ knd u = n
  | .nt zs, v => ∃ p, v = .ref p ∧ NtAt K H p zs
  | .tup ds, v => ∃ p vs, v = .ref p ∧ SqT K H p vs ∧ RDs K H N ds vs
  | .lst ds, v => ∃ p vs, v = .ref p ∧ LstAt K H N p vs ∧ RDs K H N ds vs
def RDs (K : PySem.W.Frag) (H : Hp) (N : Ns) : List D → List V → Prop
  | [], vs => vs = []
  | d :: ds, vs => ∃ v r, vs = v :: r ∧ RD K H N d v ∧ RDs K H N ds r
end
structure KLe (H H' : Hp) : Prop where
  tup : ∀ p xs, H p = some (.tup xs) → H' p = some (.tup xs)
  ktup : ∀ p o xs, H p = some (.frz o (.tup xs)) → H' p = some (.frz o (.tup xs))
  klst : ∀ p o xs, H p = some (.frz o (.lst xs)) → H' p = some (.frz o (.lst xs))
  kind : ∀ p u, H p = some u → ∃ u', H' p = some u' ∧ knd u' = knd u
  kxd : ∀ p fs, H p = some (.xd fs) → H' p = some (.xd fs)
theorem KLe.refl (H : Hp) : KLe H H := ⟨fun _ _ h => h, fun _ _ _ h => h, fun _ _ _ h => h, fun _ u h => ⟨u, h, rfl⟩, fun _ _ h => h⟩
theorem KLe.trans {H H1 H2 : Hp} (a : KLe H H1) (b : KLe H1 H2) : KLe H H2 :=
  ⟨fun p xs h => b.tup p xs (a.tup p xs h), fun p o xs h => b.ktup p o xs (a.ktup p o xs h), fun p o xs h => b.klst p o xs (a.klst p o xs h), fun p u h => by
    obtain ⟨u1, h1, e1⟩ := a.kind p u h
    obtain ⟨u2, h2, e2⟩ := b.kind p u1 h1
    exact ⟨u2, h2, e2.trans e1⟩, fun p fs h => b.kxd p fs (a.kxd p fs h)⟩
theorem KLe.fresh {H : Hp} {p : Addr} {o : HO} (h : H p = none) : KLe H (upd H p o) :=
  ⟨fun q xs e => by rw [upd_ne (ne_of_none e h)]; exact e, fun q _ xs e => by rw [upd_ne (ne_of_none e h)]; exact e, fun q _ xs e => by rw [upd_ne (ne_of_none e h)]; exact e, fun q u e => ⟨u, by rw [upd_ne (ne_of_none e h)]; exact e, rfl⟩, fun q fs e => by rw [upd_ne (ne_of_none e h)]; exact e⟩
def mutH : HO → Bool
  | .lst _ => true | .dK _ => true | .dT _ => true | .ins _ _ _ => true | .set _ _ => true | .ext _ => true | _ => false
theorem KLe.write {H : Hp} {p : Addr} {o u : HO} (h : H p = some u) (m : mutH u = true) (k : knd o = knd u) : KLe H (upd H p o) := by
  have ne : ∀ q x, H q = some x → mutH x = false → q ≠ p := fun q x e n z => by
    subst z; rw [h] at e; cases e; rw [m] at n; cases n
  refine ⟨fun q xs e => ?_, fun q _ xs e => ?_, fun q _ xs e => ?_, fun q x e => ?_, fun q fs e => by rw [upd_ne (ne q _ e rfl)]; exact e⟩
  · rw [upd_ne (ne q _ e rfl)]; exact e
  · rw [upd_ne (ne q _ e rfl)]; exact e
  · rw [upd_ne (ne q _ e rfl)]; exact e
  · by_cases z : q = p
    · subst z; rw [h] at e; cases e; exact ⟨o, upd_same, k⟩
    · exact ⟨x, by rw [upd_ne z]; exact e, rfl⟩
/-- data stay data -/
structure Kp (H : Hp) (N : Ns) (H' : Hp) (N' : Ns) : Prop where
  kle : KLe H H'
  nv : ∀ p xs, H p = some (.lst xs) → ¬ N p → H' p = some (.lst xs) ∧ ¬ N' p
theorem Kp.refl (H : Hp) (N : Ns) : Kp H N H N := ⟨KLe.refl H, fun _ _ h n => ⟨h, n⟩⟩
theorem Kp.trans {H H1 H2 : Hp} {N N1 N2 : Ns} (a : Kp H N H1 N1) (b : Kp H1 N1 H2 N2) : Kp H N H2 N2 :=
  ⟨a.kle.trans b.kle, fun p u h n => by obtain ⟨h1, n1⟩ := a.nv p u h n; exact b.nv p u h1 n1⟩
theorem SqT.le {K : PySem.W.Frag} {H H' : Hp} {a : Addr} {xs : List V} (l : KLe H H') (h : SqT K H a xs) : SqT K H' a xs := by
  rcases h with (h | ⟨o, h⟩) | h
  · exact .inl (.inl (l.tup _ _ h))
  · exact .inl (.inr ⟨o, l.ktup _ _ _ h⟩)
  · exact .inr h
theorem LstAt.le {K : PySem.W.Frag} {H H' : Hp} {N N' : Ns} {a : Addr} {xs : List V} (l : Kp H N H' N') (h : LstAt K H N a xs) : LstAt K H' N' a xs := by
  rcases h with ⟨h, n⟩ | ⟨o, h⟩ | h
  · exact .inl (l.nv _ _ h n)
  · exact .inr (.inl ⟨o, l.kle.klst _ _ _ h⟩)
  · exact .inr (.inr h)
mutual
theorem RD.le {K : PySem.W.Frag} {H H' : Hp} {N N' : Ns} (l : Kp H N H' N') : ∀ {d : D} {v : V}, RD K H N d v → RD K H' N' d v
  | .non, _, h => by simpa only [RD] using h
  | .bl _, _, h => by simpa only [RD] using h
  | .int _, _, h => by simpa only [RD] using h
  | .str _, _, h => by simpa only [RD] using h
  | .ty _, _, h => by simpa only [RD] using h
  | .ref _, _, h => by simpa only [RD] using h
  | .any n, v, h => by
    simp only [RD] at h ⊢
    obtain ⟨a, u, e, hu, k⟩ := h
    obtain ⟨u', hu', k'⟩ := l.kle.kind a u hu
    exact ⟨a, u', e, hu', k'.trans k⟩
  | .nt zs, v, h => by
    simp only [RD] at h ⊢
    obtain ⟨p, e, s⟩ := h
    refine ⟨p, e, ?_⟩
    rcases s with ⟨o, s, r⟩ | s
    · exact .inl ⟨o, l.kle.ktup _ _ _ s, r⟩
    · exact .inr s
  | .tup ds, v, h => by
    simp only [RD] at h ⊢
    obtain ⟨p, vs, e, s, r⟩ := h
    exact ⟨p, vs, e, SqT.le l.kle s, RDs.le l r⟩
  | .lst ds, v, h => by
    simp only [RD] at h ⊢
    obtain ⟨p, vs, e, s, r⟩ := h
    exact ⟨p, vs, e, LstAt.le l s, RDs.le l r⟩
theorem RDs.le {K : PySem.W.Frag} {H H' : Hp} {N N' : Ns} (l : Kp H N H' N') : ∀ {ds : List D} {vs : List V}, RDs K H N ds vs → RDs K H' N' ds vs
  | [], _, h => by simpa only [RDs] using h
  | d :: ds, _, h => by
    simp only [RDs] at h ⊢
    obtain ⟨v, r, e, h1, h2⟩ := h
    exact ⟨v, r, e, RD.le l h1, RDs.le l h2⟩
end
section
variable {K : PySem.W.Frag} {H : Hp} {N : Ns}
theorem RD.non : RD K H N .non .non := by simp only [RD]
theorem RD.bl (b : Bool) : RD K H N (.bl b) (.bl b) := by simp only [RD]
theorem RD.int (i : Int) : RD K H N (.int i) (.int i) := by simp only [RD]
theorem RD.str (x : Str) : RD K H N (.str x) (.str x) := by simp only [RD]
theorem RD.ty (n : String) : RD K H N (.ty n) (.ty n) := by simp only [RD]
theorem RD.ref (a : Addr) : RD K H N (.ref a) (.ref a) := by simp only [RD]
theorem RD.tup {ds : List D} {p : Addr} {vs : List V} (s : SqT K H p vs) (r : RDs K H N ds vs) : RD K H N (.tup ds) (.ref p) := by simp only [RD]; exact ⟨p, vs, rfl, s, r⟩
theorem RD.lst {ds : List D} {p : Addr} {vs : List V} (s : LstAt K H N p vs) (r : RDs K H N ds vs) : RD K H N (.lst ds) (.ref p) := by simp only [RD]; exact ⟨p, vs, rfl, s, r⟩
theorem RD.of_non {v : V} (h : RD K H N .non v) : v = .non := by simpa only [RD] using h
theorem RD.of_bl {b : Bool} {v : V} (h : RD K H N (.bl b) v) : v = .bl b := by simpa only [RD] using h
theorem RD.of_int {i : Int} {v : V} (h : RD K H N (.int i) v) : v = .int i := by simpa only [RD] using h
theorem RD.of_str {i : Str} {v : V} (h : RD K H N (.str i) v) : v = .str i := by simpa only [RD] using h
theorem RD.of_ty {i : String} {v : V} (h : RD K H N (.ty i) v) : v = .ty i := by simpa only [RD] using h
theorem RD.of_ref {i : Addr} {v : V} (h : RD K H N (.ref i) v) : v = .ref i := by simpa only [RD] using h
theorem RD.of_any {n : String} {v : V} (h : RD K H N (.any n) v) : ∃ a u, v = .ref a ∧ H a = some u ∧ knd u = n := by simpa only [RD] using h
theorem RD.of_tup {ds : List D} {v : V} (h : RD K H N (.tup ds) v) : ∃ p vs, v = .ref p ∧ SqT K H p vs ∧ RDs K H N ds vs := by simpa only [RD] using h
theorem RD.of_nt {zs : List Str} {v : V} (h : RD K H N (.nt zs) v) : ∃ p, v = .ref p ∧ NtAt K H p zs := by simpa only [RD] using h
theorem RD.of_lst {ds : List D} {v : V} (h : RD K H N (.lst ds) v) : ∃ p vs, v = .ref p ∧ LstAt K H N p vs ∧ RDs K H N ds vs := by simpa only [RD] using h
theorem RDs.nil : RDs K H N [] [] := by simp only [RDs]
theorem RDs.cons {d : D} {ds : List D} {v : V} {vs : List V} (h : RD K H N d v) (t : RDs K H N ds vs) : RDs K H N (d :: ds) (v :: vs) := by simp only [RDs]; exact ⟨v, vs, rfl, h, t⟩
theorem RDs.of_nil {vs : List V} (h : RDs K H N [] vs) : vs = [] := by simpa only [RDs] using h
theorem RDs.of_cons {d : D} {ds : List D} {vs : List V} (h : RDs K H N (d :: ds) vs) : ∃ v r, vs = v :: r ∧ RD K H N d v ∧ RDs K H N ds r := by simpa only [RDs] using h
theorem RDs.length : ∀ {ds : List D} {vs : List V}, RDs K H N ds vs → ds.length = vs.length
  | [], _, h => by rw [h.of_nil]; rfl
  | d :: ds, _, h => by
    obtain ⟨v, r, rfl, _, h2⟩ := h.of_cons
    rw [List.length_cons, List.length_cons, RDs.length h2]
theorem RDs.get : ∀ {ds : List D} {vs : List V} {i : Nat} {d : D}, RDs K H N ds vs → ds[i]? = some d → ∃ v, vs[i]? = some v ∧ RD K H N d v
  | [], _, _, _, _, e => by simp at e
  | d :: ds, _, 0, _, h, e => by
    obtain ⟨v, r, rfl, h1, _⟩ := h.of_cons
    simp at e; subst e
    exact ⟨v, rfl, h1⟩
  | d :: ds, _, i + 1, x, h, e => by
    obtain ⟨v, r, rfl, _, h2⟩ := h.of_cons
    obtain ⟨u, h3, h4⟩ := RDs.get (i := i) (d := x) h2 (by simpa using e)
    exact ⟨u, by simpa using h3, h4⟩
theorem RDs.append : ∀ {ds es : List D} {vs us : List V}, RDs K H N ds vs → RDs K H N es us → RDs K H N (ds ++ es) (vs ++ us)
  | [], _, _, _, h, t => by rw [h.of_nil]; exact t
  | d :: ds, _, _, _, h, t => by
    obtain ⟨v, r, rfl, h1, h2⟩ := h.of_cons
    exact RDs.cons h1 (RDs.append h2 t)
theorem RDs.take : ∀ {ds : List D} {vs : List V} (n : Nat), RDs K H N ds vs → RDs K H N (ds.take n) (vs.take n)
  | _, _, 0, _ => by simpa using RDs.nil
  | [], _, n + 1, h => by rw [h.of_nil]; exact RDs.nil
  | d :: ds, _, n + 1, h => by
    obtain ⟨v, r, rfl, h1, h2⟩ := h.of_cons
    exact RDs.cons h1 (RDs.take n h2)
theorem RDs.drop : ∀ {ds : List D} {vs : List V} (n : Nat), RDs K H N ds vs → RDs K H N (ds.drop n) (vs.drop n)
  | _, _, 0, h => h
  | [], _, n + 1, h => by rw [h.of_nil]; exact RDs.nil
  | d :: ds, _, n + 1, h => by
    obtain ⟨v, r, rfl, h1, h2⟩ := h.of_cons
    exact RDs.drop n h2
theorem RDs.reverse : ∀ {ds : List D} {vs : List V}, RDs K H N ds vs → RDs K H N ds.reverse vs.reverse
  | [], _, h => by rw [h.of_nil]; exact RDs.nil
  | d :: ds, _, h => by
    obtain ⟨v, r, rfl, h1, h2⟩ := h.of_cons
    rw [List.reverse_cons, List.reverse_cons]
    exact RDs.append (RDs.reverse h2) (RDs.cons h1 RDs.nil)
theorem RDs.set {d : D} {v : V} (h1 : RD K H N d v) : ∀ {ds : List D} {vs : List V} (i : Nat), RDs K H N ds vs → RDs K H N (ds.set i d) (vs.set i v)
  | [], _, _, h => by rw [h.of_nil]; exact RDs.nil
  | d' :: ds, _, 0, h => by
    obtain ⟨v, r, rfl, _, h2⟩ := h.of_cons
    exact RDs.cons h1 h2
  | d' :: ds, _, i + 1, h => by
    obtain ⟨v, r, rfl, h3, h2⟩ := h.of_cons
    exact RDs.cons h3 (RDs.set h1 i h2)
theorem RDs.eraseIdx : ∀ {ds : List D} {vs : List V} (i : Nat), RDs K H N ds vs → RDs K H N (ds.eraseIdx i) (vs.eraseIdx i)
  | [], _, _, h => by rw [h.of_nil]; exact RDs.nil
  | d' :: ds, _, 0, h => by
    obtain ⟨v, r, rfl, _, h2⟩ := h.of_cons
    exact h2
  | d' :: ds, _, i + 1, h => by
    obtain ⟨v, r, rfl, h3, h2⟩ := h.of_cons
    exact RDs.cons h3 (RDs.eraseIdx i h2)
theorem RDs.dropLast {ds : List D} {vs : List V} (h : RDs K H N ds vs) : RDs K H N ds.dropLast vs.dropLast := by
  rw [List.dropLast_eq_take, List.dropLast_eq_take, h.length]; exact RDs.take _ h
theorem RDs.of_strs : ∀ {ns : List Str} {vs : List V}, RDs K H N (ns.map D.str) vs → vs = ns.map V.str
  | [], _, h => h.of_nil
  | n :: ns, _, h => by
    obtain ⟨v, r, rfl, h1, h2⟩ := RDs.of_cons h
    rw [h1.of_str, RDs.of_strs h2]; rfl
theorem RDs.of_bls : ∀ {ns : List Bool} {vs : List V}, RDs K H N (ns.map D.bl) vs → vs = ns.map V.bl
  | [], _, h => h.of_nil
  | n :: ns, _, h => by
    obtain ⟨v, r, rfl, h1, h2⟩ := RDs.of_cons h
    rw [h1.of_bl, RDs.of_bls h2]; rfl
theorem RDs.strs : ∀ (ns : List Str), RDs K H N (ns.map D.str) (ns.map V.str)
  | [] => RDs.nil
  | n :: ns => RDs.cons (RD.str n) (RDs.strs ns)
end

theorem RD.nt_tup {K : PySem.W.Frag} {H : Hp} {N : Ns} {zs : List Str} {v : V} (h : RD K H N (.nt zs) v) : RD K H N (.tup (zs.map .str)) v := by
  obtain ⟨p, rfl, s⟩ := h.of_nt
  exact RD.tup s.sq (RDs.strs zs)
/-! ### what stands at addresses -/
def RKV {κ : Type} (K : PySem.W.Frag) (H : Hp) (N : Ns) : List (κ × D) → List (κ × V) → Prop := Paired fun p q => p.1 = q.1 ∧ RD K H N p.2 q.2
theorem RKV.le {κ : Type} {K : PySem.W.Frag} {H H' : Hp} {N N' : Ns} (l : Kp H N H' N') {a : List (κ × D)} {b : List (κ × V)} (h : RKV K H N a b) : RKV K H' N' a b := Paired.mapP h fun _ _ z => ⟨z.1, z.2.le l⟩
/-- a dict by its entries: hash, key, value -/
def DxIs (h : Heap) (a : Addr) (kvs : List (Int × V × V)) : Prop := kvs.length ≤ sizeLine ∧ (a == sysModules) = false ∧ ∃ o es ep, h.get? a = some o ∧ o.ExactDict ∧ o.data = .dict es ep ∧ ep = kvs.length ∧ Paired (fun (p : Int × V × V) (e : DictEntry) => e.hash = p.1 ∧ RelV p.2.1 e.key ∧ RelV p.2.2 e.val) kvs es.toList
def DxO (a : Addr) (kvs : List (Int × V × V)) : HO := .ext fun h => DxIs h a kvs
def RXV (K : PySem.W.Frag) (H : Hp) (N : Ns) (hs : D → Int) : List (D × D) → List (Int × V × V) → Prop := Paired fun p q => q.1 = hs p.1 ∧ RD K H N p.1 q.2.1 ∧ RD K H N p.2 q.2.2
theorem RXV.le {K : PySem.W.Frag} {H H' : Hp} {N N' : Ns} {hs : D → Int} (l : Kp H N H' N') {a : List (D × D)} {b : List (Int × V × V)} (h : RXV K H N hs a b) : RXV K H' N' hs a b := Paired.mapP h fun _ _ z => ⟨z.1, z.2.1.le l, z.2.2.le l⟩
/-- the dict of an exception's own fields -/
def XdOf (K : PySem.W.Frag) (H : Hp) (N : Ns) : Option Addr → List (Str × D) → Prop
  | none, fs => fs = []
  | some p, fs => fs ≠ [] ∧ ∃ fs', H p = some (.xd fs') ∧ RKV K H N fs fs'
theorem XdOf.le {K : PySem.W.Frag} {H H' : Hp} {N N' : Ns} (l : Kp H N H' N') {d : Option Addr} {fs : List (Str × D)} (h : XdOf K H N d fs) : XdOf K H' N' d fs := by
  cases d with
  | none => exact h
  | some p => obtain ⟨ne, fs', e, r⟩ := h; exact ⟨ne, fs', l.kle.kxd p fs' e, r.le l⟩
/-- an exception at rest -/
def ExK (cls : Value) (d : Option Addr) (a : Addr) : HO := .ext fun h => ∃ (oe : Obj) (vs : Array Value), h.get? a = some oe ∧ oe.cls = cls ∧ oe.dict = d ∧ oe.data = .fields vs
theorem exK_ok {P : Program} {w : World} {H : Hp} {h : Heap} {a : Addr} {cls : Value} {d : Option Addr} {oe : Obj} {vs : Array Value} (e : h.get? a = some oe) (h1 : oe.cls = cls) (h2 : oe.dict = d) (h3 : oe.data = .fields vs) : ObjOk P w H h a (ExK cls d a) :=
  ⟨⟨oe, vs, e, h1, h2, h3⟩, ⟨oe, e⟩, fun _ _ ⟨o, v, q, r⟩ k => ⟨o, v, k o q, r⟩⟩
def RO (K : PySem.W.Frag) (H : Hp) (N : Ns) (a : Addr) : GO → Prop
  | .lst ds => ∃ vs, H a = some (.lst vs) ∧ RDs K H N ds vs
  | .dK kvs => ∃ kvs', H a = some (.dK kvs') ∧ RKV K H N kvs kvs'
  | .dT kvs => ∃ kvs', H a = some (.dT kvs') ∧ RKV K H N kvs kvs'
  | .ins C dx fs => ∃ fs', H a = some (.ins C dx fs') ∧ RKV K H N fs fs'
  | .dX ok hs kvs => ∃ kvs', H a = some (DxO a kvs') ∧ RXV K H N hs kvs kvs' ∧ ok kvs
  | .ex cls fs => ∃ d, H a = some (ExK cls d a) ∧ XdOf K H N d fs
def RelG (K : PySem.W.Frag) (H : Hp) (N : Ns) (G : Gp) : Prop := ∀ a o, G a = some o → N a ∧ RO K H N a o
theorem RO.here {K : PySem.W.Frag} {H : Hp} {N : Ns} {a : Addr} {o : GO} (h : RO K H N a o) : ∃ u, H a = some u ∧ mutH u = true := by
  cases o with
  | lst ds => obtain ⟨_, h, _⟩ := h; exact ⟨_, h, rfl⟩
  | dK ds => obtain ⟨_, h, _⟩ := h; exact ⟨_, h, rfl⟩
  | dT ds => obtain ⟨_, h, _⟩ := h; exact ⟨_, h, rfl⟩
  | ins C dx ds => obtain ⟨_, h, _⟩ := h; exact ⟨_, h, rfl⟩
  | dX ok hs kvs => obtain ⟨_, h, _⟩ := h; exact ⟨_, h, rfl⟩
  | ex cls fs => obtain ⟨_, h, _⟩ := h; exact ⟨_, h, rfl⟩
theorem RO.le {K : PySem.W.Frag} {H H' : Hp} {N N' : Ns} {a : Addr} {o : GO} (l : Kp H N H' N') (e : H' a = H a) (h : RO K H N a o) : RO K H' N' a o := by
  cases o with
  | lst ds => obtain ⟨vs, h, r⟩ := h; exact ⟨vs, e.trans h, r.le l⟩
  | dK ds => obtain ⟨vs, h, r⟩ := h; exact ⟨vs, e.trans h, r.le l⟩
  | dT ds => obtain ⟨vs, h, r⟩ := h; exact ⟨vs, e.trans h, r.le l⟩
  | ins C dx ds => obtain ⟨vs, h, r⟩ := h; exact ⟨vs, e.trans h, r.le l⟩
  | dX ok hs kvs => obtain ⟨vs, h, r, z⟩ := h; exact ⟨vs, e.trans h, r.le l, z⟩
  | ex cls fs => obtain ⟨d, h, r⟩ := h; exact ⟨d, e.trans h, r.le l⟩
theorem RelG.free {K : PySem.W.Frag} {H : Hp} {N : Ns} {G : Gp} (r : RelG K H N G) {p : Addr} (h : H p = none) : G p = none := by
  cases e : G p with
  | none => rfl
  | some o =>
    obtain ⟨u, h', _⟩ := (r p o e).2.here
    rw [h] at h'; cases h'
/-- a step -/
structure Stp (K : PySem.W.Frag) (H : Hp) (N : Ns) (G : Gp) (H' : Hp) (N' : Ns) (G' : Gp) : Prop where
  kp : Kp H N H' N'
  fr : ∀ p u, H p = some u → G p = none → H' p = some u ∧ G' p = none ∧ (N p → N' p)
  rel : RelG K H' N' G'
theorem Stp.refl {K : PySem.W.Frag} {H : Hp} {N : Ns} {G : Gp} (r : RelG K H N G) : Stp K H N G H N G := ⟨Kp.refl H N, fun _ _ h n => ⟨h, n, id⟩, r⟩
theorem Stp.trans {K : PySem.W.Frag} {H H1 H2 : Hp} {N N1 N2 : Ns} {G G1 G2 : Gp} (a : Stp K H N G H1 N1 G1) (b : Stp K H1 N1 G1 H2 N2 G2) : Stp K H N G H2 N2 G2 :=
  ⟨a.kp.trans b.kp, fun p u h n => by
    obtain ⟨h1, n1, m1⟩ := a.fr p u h n
    obtain ⟨h2, n2, m2⟩ := b.fr p u h1 n1
    exact ⟨h2, n2, fun z => m2 (m1 z)⟩, b.rel⟩
def Sub (G G' : Gp) : Prop := ∀ a o, G a = some o → G' a = some o
theorem Sub.refl (G : Gp) : Sub G G := fun _ _ h => h
theorem Sub.trans {G G1 G2 : Gp} (a : Sub G G1) (b : Sub G1 G2) : Sub G G2 := fun p o h => b p o (a p o h)
theorem Sub.new {G : Gp} {p : Addr} {o : GO} (h : G p = none) : Sub G (gup G p o) := fun a u e => by rw [gup_ne (gne e h)]; exact e
theorem Sub.news {G G' : Gp} {p : Addr} {o : GO} (s : Sub G G') (h : G' p = none) : Sub G (gup G' p o) := s.trans (Sub.new h)
theorem Sub.nn {G G' : Gp} (s : Sub G G') {p : Addr} (h : G' p = none) : G p = none := by
  cases e : G p with
  | none => rfl
  | some o => rw [s p o e] at h; cases h
theorem RelG.sub {K : PySem.W.Frag} {H : Hp} {N : Ns} {G G' : Gp} (r : RelG K H N G') (s : Sub G G') : Stp K H N G' H N G := ⟨Kp.refl H N, fun p u h n => ⟨h, s.nn n, id⟩, fun a o e => r a o (s a o e)⟩
theorem Kp.new {H : Hp} {N : Ns} {p : Addr} {u : HO} (h : H p = none) : Kp H N (upd H p u) (nadd N p) :=
  ⟨KLe.fresh h, fun q x e n => ⟨by rw [upd_ne (ne_of_none e h)]; exact e, fun z => z.elim (ne_of_none e h) n⟩⟩
theorem Kp.new0 {H : Hp} {N : Ns} {p : Addr} {u : HO} (h : H p = none) : Kp H N (upd H p u) N :=
  ⟨KLe.fresh h, fun q x e n => ⟨by rw [upd_ne (ne_of_none e h)]; exact e, n⟩⟩
theorem Kp.newV {H : Hp} {N : Ns} {p : Addr} {u : HO} (h : H p = none) : Kp H N (upd H p u) (ndel N p) :=
  ⟨KLe.fresh h, fun q x e n => ⟨by rw [upd_ne (ne_of_none e h)]; exact e, fun z => n z.2⟩⟩
/-- a new object that is known -/
theorem Stp.new {K : PySem.W.Frag} {H : Hp} {N : Ns} {G : Gp} {p : Addr} {u : HO} {o : GO} (r : RelG K H N G) (h : H p = none) (ho : RO K (upd H p u) (nadd N p) p o) : Stp K H N G (upd H p u) (nadd N p) (gup G p o) := by
  refine ⟨Kp.new h, fun q x e n => ⟨by rw [upd_ne (ne_of_none e h)]; exact e, by rw [gup_ne (ne_of_none e h)]; exact n, .inr⟩, fun a o' e => ?_⟩
  by_cases z : a = p
  · subst z; rw [gup_same] at e; cases e; exact ⟨.inl rfl, ho⟩
  · rw [gup_ne z] at e
    exact ⟨.inr (r a o' e).1, (r a o' e).2.le (Kp.new h) (upd_ne z)⟩
/-- a new object that is not known -/
theorem Stp.new0 {K : PySem.W.Frag} {H : Hp} {N : Ns} {G : Gp} {p : Addr} {u : HO} (r : RelG K H N G) (h : H p = none) : Stp K H N G (upd H p u) N G := by
  refine ⟨Kp.new0 h, fun q x e n => ⟨by rw [upd_ne (ne_of_none e h)]; exact e, n, id⟩, fun a o' e => ?_⟩
  obtain ⟨x, hx, _⟩ := (r a o' e).2.here
  exact ⟨(r a o' e).1, (r a o' e).2.le (Kp.new0 h) (upd_ne (ne_of_none hx h))⟩
/-- a new object that nobody changes -/
theorem Stp.newV {K : PySem.W.Frag} {H : Hp} {N : Ns} {G : Gp} {p : Addr} {u : HO} (r : RelG K H N G) (h : H p = none) : Stp K H N G (upd H p u) (ndel N p) G := by
  refine ⟨Kp.newV h, fun q x e n => ⟨by rw [upd_ne (ne_of_none e h)]; exact e, n, fun z => ⟨ne_of_none e h, z⟩⟩, fun a o' e => ?_⟩
  obtain ⟨x, hx, _⟩ := (r a o' e).2.here
  exact ⟨⟨ne_of_none hx h, (r a o' e).1⟩, (r a o' e).2.le (Kp.newV h) (upd_ne (ne_of_none hx h))⟩
theorem Kp.write {H : Hp} {N : Ns} {p : Addr} {u u0 : HO} (hN : N p) (h : H p = some u0) (m : mutH u0 = true) (k : knd u = knd u0) : Kp H N (upd H p u) N :=
  ⟨KLe.write h m k, fun q x e n => ⟨by rw [upd_ne (fun z => n (by rw [z]; exact hN))]; exact e, n⟩⟩
/-- a known object is changed -/
theorem Stp.write {K : PySem.W.Frag} {H : Hp} {N : Ns} {G : Gp} {p : Addr} {u : HO} {o o0 : GO} {u0 : HO} (r : RelG K H N G) (hG : G p = some o0) (h : H p = some u0) (m : mutH u0 = true) (k : knd u = knd u0) (ho : RO K (upd H p u) N p o) :
    Stp K H N G (upd H p u) N (gup G p o) := by
  have hN := (r p o0 hG).1
  refine ⟨Kp.write hN h m k, fun q x e n => ?_, fun a o' e => ?_⟩
  · have ne : q ≠ p := fun z => by subst z; rw [hG] at n; cases n
    exact ⟨by rw [upd_ne ne]; exact e, by rw [gup_ne ne]; exact n, id⟩
  · by_cases z : a = p
    · subst z; rw [gup_same] at e; cases e; exact ⟨hN, ho⟩
    · rw [gup_ne z] at e
      exact ⟨(r a o' e).1, (r a o' e).2.le (Kp.write hN h m k) (upd_ne z)⟩
/-- a young object that is not known is changed -/
theorem Stp.poke {K : PySem.W.Frag} {H0 H : Hp} {N0 N : Ns} {G0 G : Gp} {p : Addr} {u u0 : HO} (s : Stp K H0 N0 G0 H N G) (h0 : H0 p = none) (h : H p = some u0) (n : G p = none) (hN : N p) (m : mutH u0 = true) (k : knd u = knd u0) :
    Stp K H0 N0 G0 (upd H p u) N G := by
  have kw := Kp.write hN h m k
  refine ⟨s.kp.trans kw, fun q x e nq => ?_, fun a o' e => ?_⟩
  · obtain ⟨h1, n1, m1⟩ := s.fr q x e nq
    exact ⟨by rw [upd_ne (ne_of_none e h0)]; exact h1, n1, m1⟩
  · have ne : a ≠ p := fun z => by subst z; rw [n] at e; cases e
    exact ⟨(s.rel a o' e).1, (s.rel a o' e).2.le kw (upd_ne ne)⟩
/-- a young object gets known -/
theorem Stp.know {K : PySem.W.Frag} {H0 H : Hp} {N0 N : Ns} {G0 G : Gp} {p : Addr} {o : GO} (s : Stp K H0 N0 G0 H N G) (h0 : H0 p = none) (hN : N p) (ho : RO K H N p o) : Stp K H0 N0 G0 H N (gup G p o) := by
  refine ⟨s.kp, fun q x e nq => ?_, fun a o' e => ?_⟩
  · obtain ⟨h1, n1, m1⟩ := s.fr q x e nq
    exact ⟨h1, by rw [gup_ne (ne_of_none e h0)]; exact n1, m1⟩
  · by_cases z : a = p
    · subst z; rw [gup_same] at e; cases e; exact ⟨hN, ho⟩
    · rw [gup_ne z] at e
      exact s.rel a o' e
/-- an object that G doesn't know is from now on never changed: it was young, or G knew it -/
theorem Kp.calm {H : Hp} {N : Ns} {p : Addr} : Kp H N H (ndel N p) := ⟨KLe.refl H, fun q x e n => ⟨e, fun z => n z.2⟩⟩
theorem Stp.calm {K : PySem.W.Frag} {H0 H : Hp} {N0 N : Ns} {G0 G : Gp} {p : Addr} (s : Stp K H0 N0 G0 H N G) (h0 : H0 p = none ∨ G0 p ≠ none) (n : G p = none) : Stp K H0 N0 G0 H (ndel N p) G := by
  refine ⟨s.kp.trans Kp.calm, fun q x e nq => ?_, fun a o' e => ?_⟩
  · obtain ⟨h1, n1, m1⟩ := s.fr q x e nq
    refine ⟨h1, n1, fun z => ⟨fun w => ?_, m1 z⟩⟩
    subst w
    rcases h0 with h0 | h0
    · rw [h0] at e; cases e
    · exact h0 nq
  · have ne : a ≠ p := fun z => by subst z; rw [n] at e; cases e
    exact ⟨⟨ne, (s.rel a o' e).1⟩, (s.rel a o' e).2.le Kp.calm rfl⟩

/-! ### slots -/
abbrev Sd := List (Option D)
def RSt (K : PySem.W.Frag) (H : Hp) (N : Ns) (σ : Sd) (τ : L2.St) : Prop := σ.length = τ.length ∧ ∀ (i : Nat) (d : D), σ[i]? = some (some d) → ∃ v, τ[i]? = some (some v) ∧ RD K H N d v
theorem RSt.le {K : PySem.W.Frag} {H H' : Hp} {N N' : Ns} {σ : Sd} {τ : L2.St} (l : Kp H N H' N') (h : RSt K H N σ τ) : RSt K H' N' σ τ := ⟨h.1, fun i d e => by obtain ⟨v, h1, h2⟩ := h.2 i d e; exact ⟨v, h1, h2.le l⟩⟩
theorem RSt.set {K : PySem.W.Frag} {H : Hp} {N : Ns} {σ : Sd} {τ : L2.St} {d : D} {v : V} (h : RSt K H N σ τ) (r : RD K H N d v) (i : Nat) : RSt K H N (σ.set i (some d)) (τ.set i (some v)) := by
  refine ⟨by rw [List.length_set, List.length_set]; exact h.1, fun j x e => ?_⟩
  by_cases hj : i = j
  · subst hj
    rw [List.getElem?_set] at e ⊢
    simp only [if_true] at e ⊢
    rw [h.1] at e
    split at e
    · rename_i hlt
      cases e
      rw [if_pos hlt]
      exact ⟨v, rfl, r⟩
    · cases e
  · rw [List.getElem?_set_ne hj] at e ⊢
    exact h.2 j x e

/-! ### transformers by data -/
abbrev DK := D → Gp → Prop
abbrev DE := Sd → Gp → DK → Prop
abbrev DT := Sd → Gp → (Bool → Gp → Prop) → Prop
abbrev DA := Sd → Gp → (List D → Gp → Prop) → Prop
structure DEnds where
  nx : Sd → Gp → Prop
  rt : DK
  bk : Sd → Gp → Prop := fun _ _ => False
  ct : Sd → Gp → Prop := fun _ _ => False
abbrev DS := DEnds → Sd → Gp → Prop
abbrev DG := D → Sd → Gp → (Sd → Gp → Prop) → Prop
abbrev DR2 := D → D → Gp → DK → Prop
abbrev DR1 := D → Gp → DK → Prop
abbrev DRn := List D → Gp → DK → Prop
/-- a continuation by values holds where the one by data does -/
def UpQ (K : PySem.W.Frag) (H : Hp) (N : Ns) (G : Gp) (R : DK) (Q : VK) : Prop := ∀ d G' N' v H', R d G' → Stp K H N G H' N' G' → RD K H' N' d v → Q v H'
def up (K : PySem.W.Frag) (t : DE) : TE := fun τ H Q => ∃ σ G N R, RSt K H N σ τ ∧ RelG K H N G ∧ t σ G R ∧ UpQ K H N G R Q
def upT (K : PySem.W.Frag) (t : DT) : TT := fun τ H Q => ∃ σ G N R, RSt K H N σ τ ∧ RelG K H N G ∧ t σ G R ∧ ∀ b G' N' H', R b G' → Stp K H N G H' N' G' → Q b H'
def upA (K : PySem.W.Frag) (t : DA) : TA := fun τ H Q => ∃ σ G N R, RSt K H N σ τ ∧ RelG K H N G ∧ t σ G R ∧ ∀ ds G' N' vs H', R ds G' → Stp K H N G H' N' G' → RDs K H' N' ds vs → Q vs H'
structure UpE (K : PySem.W.Frag) (H : Hp) (N : Ns) (G : Gp) (E : DEnds) (D : Ends) : Prop where
  nx : ∀ σ' G' N' τ' H', E.nx σ' G' → Stp K H N G H' N' G' → RSt K H' N' σ' τ' → D.nx τ' H'
  rt : UpQ K H N G E.rt D.rt
  bk : ∀ σ' G' N' τ' H', E.bk σ' G' → Stp K H N G H' N' G' → RSt K H' N' σ' τ' → D.bk τ' H'
  ct : ∀ σ' G' N' τ' H', E.ct σ' G' → Stp K H N G H' N' G' → RSt K H' N' σ' τ' → D.ct τ' H'
def upS (K : PySem.W.Frag) (t : DS) : TS := fun D τ H => ∃ σ G N E, RSt K H N σ τ ∧ RelG K H N G ∧ t E σ G ∧ UpE K H N G E D
def upG (K : PySem.W.Frag) (g : DG) : TG := fun v τ H Q => ∃ d σ G N R, RD K H N d v ∧ RSt K H N σ τ ∧ RelG K H N G ∧ g d σ G R ∧ ∀ σ' G' N' τ' H', R σ' G' → Stp K H N G H' N' G' → RSt K H' N' σ' τ' → Q τ' H'
def upR2 (K : PySem.W.Frag) (r : DR2) : R2 := fun x y H Q => ∃ c d G N R, RD K H N c x ∧ RD K H N d y ∧ RelG K H N G ∧ r c d G R ∧ UpQ K H N G R Q
def upR1 (K : PySem.W.Frag) (r : DR1) : V → Hp → VK → Prop := fun x H Q => ∃ c G N R, RD K H N c x ∧ RelG K H N G ∧ r c G R ∧ UpQ K H N G R Q
def upRn (K : PySem.W.Frag) (r : DRn) : List V → Hp → VK → Prop := fun xs H Q => ∃ cs G N R, RDs K H N cs xs ∧ RelG K H N G ∧ r cs G R ∧ UpQ K H N G R Q
def upM (K : PySem.W.Frag) (r : D → List D → Gp → DK → Prop) : V → List V → Hp → VK → Prop := fun x xs H Q => ∃ c cs G N R, RD K H N c x ∧ RDs K H N cs xs ∧ RelG K H N G ∧ r c cs G R ∧ UpQ K H N G R Q
theorem UpQ.le {K : PySem.W.Frag} {H H1 : Hp} {N N1 : Ns} {G G1 : Gp} {R : DK} {Q : VK} (q : UpQ K H N G R Q) (s : Stp K H N G H1 N1 G1) : UpQ K H1 N1 G1 R Q := fun d G' N' v H' r s' rd => q d G' N' v H' r (s.trans s') rd
theorem UpQ.at {K : PySem.W.Frag} {H : Hp} {N : Ns} {G : Gp} {R : DK} {Q : VK} (q : UpQ K H N G R Q) (r : RelG K H N G) {d : D} {v : V} (h : R d G) (rd : RD K H N d v) : Q v H := q d G N v H h (Stp.refl r) rd

def QE (X : Cx) (e : Expr) (t : DE) : Prop := PE X e (up X.K t)
def QT (X : Cx) (e : Expr) (t : DT) : Prop := PT X e (upT X.K t)
def QW (X : Cx) (e : Expr) (t : DT) : Prop := PW X e (upT X.K t)
def QA (X : Cx) (es : List Expr) (t : DA) : Prop := PA X es (upA X.K t)
def QS (X : Cx) (st : Stmt) (t : DS) : Prop := PS X st (upS X.K t)
def QSs (X : Cx) (st : List Stmt) (t : DS) : Prop := PSs X st (upS X.K t)
def QG (X : Cx) (tg : Expr) (g : DG) : Prop := PG X tg (upG X.K g)
def OpD (X : Cx) (f : Value → Value → Sem Value) (r : DR2) : Prop := OpR X f (upR2 X.K r)
def UnD (X : Cx) (f : Value → Sem Value) (r : DR1) : Prop := UnR X f (upR1 X.K r)
def CallD (X : Cx) (f : Value) (r : DRn) : Prop := CallR X f (upRn X.K r)
def IxD (X : Cx) (r : DR2) : Prop := IxR X (upR2 X.K r)

theorem pe_mono {X : Cx} {e : Expr} {t t' : TE} (h : PE X e t) (i : ∀ τ H Q, t' τ H Q → t τ H Q) : PE X e t' := ⟨fun pins s σ H Q I q => h.run pins s σ H Q I (i σ H Q q)⟩
theorem pt_mono {X : Cx} {e : Expr} {t t' : TT} (h : PT X e t) (i : ∀ τ H Q, t' τ H Q → t τ H Q) : PT X e t' := ⟨fun pins s σ H Q I q => h.run pins s σ H Q I (i σ H Q q)⟩
theorem pw_mono {X : Cx} {e : Expr} {t t' : TT} (h : PW X e t) (i : ∀ τ H Q, t' τ H Q → t τ H Q) : PW X e t' := ⟨fun wh pins s σ H Q I q => h.run wh pins s σ H Q I (i σ H Q q)⟩
theorem pa_mono {X : Cx} {e : List Expr} {t t' : TA} (h : PA X e t) (i : ∀ τ H Q, t' τ H Q → t τ H Q) : PA X e t' := ⟨fun pos pins s σ H Q I q => h.run pos pins s σ H Q I (i σ H Q q)⟩
theorem ps_mono {X : Cx} {e : Stmt} {t t' : TS} (h : PS X e t) (i : ∀ D τ H, t' D τ H → t D τ H) : PS X e t' := ⟨fun pins s σ H D I q => h.run pins s σ H D I (i D σ H q)⟩
theorem pss_mono {X : Cx} {e : List Stmt} {t t' : TS} (h : PSs X e t) (i : ∀ D τ H, t' D τ H → t D τ H) : PSs X e t' := ⟨fun pins s σ H D I q => h.run pins s σ H D I (i D σ H q)⟩
theorem pg_mono {X : Cx} {e : Expr} {t t' : TG} (h : PG X e t) (i : ∀ v τ H Q, t' v τ H Q → t v τ H Q) : PG X e t' := ⟨fun pins s σ H v u Q I r q => h.run pins s σ H v u Q I r (i v σ H Q q)⟩
theorem opr_mono {X : Cx} {f : Value → Value → Sem Value} {r r' : R2} (h : OpR X f r) (i : ∀ x y H Q, r' x y H Q → r x y H Q) : OpR X f r' := fun pins s σ H x y v u Q I rx ry q => h pins s σ H x y v u Q I rx ry (i x y H Q q)
theorem unr_mono {X : Cx} {f : Value → Sem Value} {r r' : V → Hp → VK → Prop} (h : UnR X f r) (i : ∀ x H Q, r' x H Q → r x H Q) : UnR X f r' := fun pins s σ H x v Q I rx q => h pins s σ H x v Q I rx (i x H Q q)
theorem callr_mono {X : Cx} {f : Value} {r r' : List V → Hp → VK → Prop} (h : CallR X f r) (i : ∀ x H Q, r' x H Q → r x H Q) : CallR X f r' := fun pins s σ H xs us Q I rx q => h pins s σ H xs us Q I rx (i xs H Q q)
theorem ixr_mono {X : Cx} {r r' : R2} (h : IxR X r) (i : ∀ x y H Q, r' x y H Q → r x y H Q) : IxR X r' := fun va sl pins s σ H x y v u Q I rx ry q => h va sl pins s σ H x y v u Q I rx ry (i x y H Q q)

/-! ### names and constants -/
section
variable {X : Cx} {e a b c : Expr} {pos : Pos} {t ta tb tc : DE}
def dVar (i : Nat) : DE := fun σ G R => match σ[i]? with | some (some d) => R d G | _ => False
def dC (d : D) : DE := fun _ G R => R d G
theorem qv (i : Nat) {x : Str} {pos : Pos} (hN : X.N[i]? = some x := by rfl) (hv : Vis X.env.scope x := by first | exact Or.inl rfl | exact Or.inr (Or.inl rfl) | exact Or.inr (Or.inr rfl)) (hd : (x == ("__debug__" : Str)) = false := by decide)
    (hcd : (x == ("__classdict__" : Str)) = false := by decide) : QE X (.Name x pos) (dVar i) := by
  refine pe_mono (pe_var hN hv hd hcd) fun τ H Q h => ?_
  obtain ⟨σ, G, N, R, hs, hg, ht, q⟩ := h
  unfold dVar at ht
  split at ht
  · rename_i d e
    obtain ⟨v, h1, h2⟩ := hs.2 i d e
    exact ⟨v, h1, q.at hg ht h2⟩
  · exact ht.elim
theorem up_c {K : PySem.W.Frag} {d : D} {v : V} (h : ∀ H N, RD K H N d v) {τ : L2.St} {H : Hp} {Q : VK} (u : up K (dC d) τ H Q) : Q v H := by
  obtain ⟨σ, G, N, R, hs, hg, ht, q⟩ := u
  exact q.at hg ht (h H N)
theorem qe_int {i j pos} : QE X (.Constant (.int i) j pos) (dC (.int i)) := pe_mono pe_int fun _ _ _ h => up_c (fun _ _ => RD.int i) h
theorem qe_bl {i j pos} : QE X (.Constant (.bool i) j pos) (dC (.bl i)) := pe_mono pe_bl fun _ _ _ h => up_c (fun _ _ => RD.bl i) h
theorem qe_non {j pos} : QE X (.Constant .none j pos) (dC .non) := pe_mono pe_non fun _ _ _ h => up_c (fun _ _ => RD.non) h
theorem qe_str {i j pos} : QE X (.Constant (.str i) j pos) (dC (.str i)) := pe_mono pe_str fun _ _ _ h => up_c (fun _ _ => RD.str i) h
/-- a module's constant -/
theorem qe_glob {x : Str} {d : D} {v : V} {u : Value} {pos : Pos} (hg : Gl X x) (hm : X.mg x = some u) (r : RelV v u) (h : ∀ H N, RD X.K H N d v) (hd : (x == ("__debug__" : Str)) = false := by decide) : QE X (.Name x pos) (dC d) :=
  pe_mono (pe_glob hg hm r hd) fun _ _ _ z => up_c h z

/-! ### operators -/
def dOp (r : DR2) (ta tb : DE) : DE := fun σ G R => ta σ G fun x G1 => tb σ G1 fun y G2 => r x y G2 R
def dUn (r : DR1) (ta : DE) : DE := fun σ G R => ta σ G fun x G1 => r x G1 R
theorem up_op {K : PySem.W.Frag} {r : DR2} {τ : L2.St} {H : Hp} {Q : VK} (u : up K (dOp r ta tb) τ H Q) : tOp (upR2 K r) (up K ta) (up K tb) τ H Q := by
  obtain ⟨σ, G, N, R, hs, hg, ht, q⟩ := u
  refine ⟨σ, G, N, _, hs, hg, ht, fun x G1 N1 v1 H1 h1 s1 r1 => ?_⟩
  refine ⟨σ, G1, N1, _, hs.le s1.kp, s1.rel, h1, fun y G2 N2 v2 H2 h2 s2 r2 => ?_⟩
  exact ⟨x, y, G2, N2, R, r1.le s2.kp, r2, s2.rel, h2, q.le (s1.trans s2)⟩
theorem qe_op {op : Operator} {r : DR2} (ho : OpD X (binaryOp op) r) (ha : QE X a ta) (hb : QE X b tb) : QE X (.BinOp a op b pos) (dOp r ta tb) := pe_mono (pe_op ho ha hb) fun _ _ _ h => up_op h
theorem qe_cmp {op : CmpOp} {r : DR2} (ho : OpD X (compareOp op) r) (ha : QE X a ta) (hb : QE X b tb) (hm : behindInMarks op b = false) : QE X (.Compare a [op] [b] pos) (dOp r ta tb) := pe_mono (pe_cmpR ho ha hb hm) fun _ _ _ h => up_op h
theorem qe_ix {r : DR2} (ho : IxD X r) (ha : QE X a ta) (hb : QE X b tb) (hs : PlainIx b) : QE X (.Subscript a b pos) (dOp r ta tb) := pe_mono (pe_ix ho ha hb hs) fun _ _ _ h => up_op h
theorem qe_un {op : UnaryOp} {r : DR1} (ho : UnD X (unaryOp op) r) (ha : QE X a ta) : QE X (.UnaryOp op a pos) (dUn r ta) := by
  refine pe_mono (pe_un ho ha) fun τ H Q h => ?_
  obtain ⟨σ, G, N, R, hs, hg, ht, q⟩ := h
  refine ⟨σ, G, N, _, hs, hg, ht, fun x G1 N1 v1 H1 h1 s1 r1 => ?_⟩
  exact ⟨x, G1, N1, R, r1, s1.rel, h1, q.le s1⟩
/-- a op1 b op2 c -/
def dChain (r r' : DR2) (ta tb tc : DE) : DE := fun σ G R => ta σ G fun x G1 => tb σ G1 fun y G2 => r x y G2 fun z G3 => match z with | .bl true => tc σ G3 fun w G4 => r' y w G4 R | .bl false => R (.bl false) G3 | _ => False
/-! ### tests -/
/-- a value that is a bool, as a test -/
def dB (t : DE) : DT := fun σ G R => t σ G fun x G1 => match x with | .bl b => R b G1 | _ => False
theorem upT_B {K : PySem.W.Frag} {τ : L2.St} {H : Hp} {Q : Bool → Hp → Prop} (u : upT K (dB t) τ H Q) : tB (up K t) τ H Q := by
  obtain ⟨σ, G, N, R, hs, hg, ht, q⟩ := u
  refine ⟨σ, G, N, _, hs, hg, ht, fun x G1 N1 v1 H1 h1 s1 r1 => ?_⟩
  split at h1
  · exact ⟨_, r1.of_bl, q _ _ _ _ h1 s1⟩
  · exact h1.elim
theorem qt_val (h : QE X e t) (he : ∀ whole, isTrue e X.env whole = (do let v ← whole; standAt e.pos; holding [v] (truthy v)) := by intro _; rfl) : QT X e (dB t) := pt_mono (pt_val h he) fun _ _ _ z => upT_B z
theorem qt_cmp {op : CmpOp} {r : DR2} (ho : OpD X (compareOp op) r) (ha : QE X a ta) (hb : QE X b tb) (hm : behindInMarks op b = false) : QT X (.Compare a [op] [b] pos) (dB (dOp r ta tb)) :=
  pt_mono (pt_cmpR ho ha hb hm) fun τ H Q h => by
    obtain ⟨σ, G, N, R, hs, hg, ht, q⟩ := h
    refine up_op ⟨σ, G, N, _, hs, hg, ht, fun x G1 N1 v1 H1 h1 s1 r1 => ?_⟩
    split at h1
    · exact ⟨_, r1.of_bl, q _ _ _ _ h1 s1⟩
    · exact h1.elim
variable {u u' : DT} {rest : List Expr}
def dAnd (t u : DT) : DT := fun σ G R => t σ G fun c G1 => match c with | true => u σ G1 R | false => R false G1
def dOr (t u : DT) : DT := fun σ G R => t σ G fun c G1 => match c with | true => R true G1 | false => u σ G1 R
def dNot (t : DT) : DT := fun σ G R => t σ G fun c G1 => R (!c) G1
theorem QW.pt (h : QW X e u) : QT X e u := PW.pt h
theorem qw_and1 (ha : QT X a u) : QW X (.BoolOp .And [a] pos) u := pw_and1 ha
theorem qw_or1 (ha : QT X a u) : QW X (.BoolOp .Or [a] pos) u := pw_or1 ha
theorem qw_and (ha : QT X a u) (hb : QW X (.BoolOp .And (b :: rest) pos) u') : QW X (.BoolOp .And (a :: b :: rest) pos) (dAnd u u') :=
  pw_mono (pw_and ha hb) fun τ H Q h => by
    obtain ⟨σ, G, N, R, hs, hg, ht, q⟩ := h
    refine ⟨σ, G, N, _, hs, hg, ht, fun c G1 N1 H1 h1 s1 => ?_⟩
    cases c with
    | true => rw [if_pos rfl]; exact ⟨σ, G1, N1, R, hs.le s1.kp, s1.rel, h1, fun b G2 N2 H2 h2 s2 => q b G2 N2 H2 h2 (s1.trans s2)⟩
    | false => rw [if_neg Bool.false_ne_true]; exact q _ _ _ _ h1 s1
theorem qw_or (ha : QT X a u) (hb : QW X (.BoolOp .Or (b :: rest) pos) u') : QW X (.BoolOp .Or (a :: b :: rest) pos) (dOr u u') :=
  pw_mono (pw_or ha hb) fun τ H Q h => by
    obtain ⟨σ, G, N, R, hs, hg, ht, q⟩ := h
    refine ⟨σ, G, N, _, hs, hg, ht, fun c G1 N1 H1 h1 s1 => ?_⟩
    cases c with
    | true => rw [if_pos rfl]; exact q _ _ _ _ h1 s1
    | false => rw [if_neg Bool.false_ne_true]; exact ⟨σ, G1, N1, R, hs.le s1.kp, s1.rel, h1, fun b G2 N2 H2 h2 s2 => q b G2 N2 H2 h2 (s1.trans s2)⟩
theorem qt_not (ha : QT X a u) : QT X (.UnaryOp .Not a pos) (dNot u) :=
  pt_mono (pt_not ha) fun τ H Q h => by
    obtain ⟨σ, G, N, R, hs, hg, ht, q⟩ := h
    exact ⟨σ, G, N, _, hs, hg, ht, fun c G1 N1 H1 h1 s1 => q _ _ _ _ h1 s1⟩
/-- .. as values that are bools -/
def dAndV (ta tb : DE) : DE := fun σ G R => ta σ G fun x G1 => match x with | .bl true => tb σ G1 R | .bl false => R (.bl false) G1 | _ => False
def dOrV (ta tb : DE) : DE := fun σ G R => ta σ G fun x G1 => match x with | .bl true => R (.bl true) G1 | .bl false => tb σ G1 R | _ => False
def dNotV (ta : DE) : DE := fun σ G R => ta σ G fun x G1 => match x with | .bl c => R (.bl (!c)) G1 | _ => False
theorem qe_one {op} (h : QE X a t) : QE X (.BoolOp op [a] pos) t := pe_one h
theorem qe_and (ha : QE X a ta) (hb : QE X (.BoolOp .And (b :: rest) pos) tb) : QE X (.BoolOp .And (a :: b :: rest) pos) (dAndV ta tb) :=
  pe_mono (pe_and ha hb) fun τ H Q h => by
    obtain ⟨σ, G, N, R, hs, hg, ht, q⟩ := h
    refine ⟨σ, G, N, _, hs, hg, ht, fun x G1 N1 v1 H1 h1 s1 r1 => ?_⟩
    split at h1
    · refine ⟨true, r1.of_bl, ?_⟩
      rw [if_pos rfl]
      exact ⟨σ, G1, N1, R, hs.le s1.kp, s1.rel, h1, q.le s1⟩
    · refine ⟨false, r1.of_bl, ?_⟩
      rw [if_neg Bool.false_ne_true]
      exact (q.le s1).at s1.rel h1 (RD.bl _)
    · exact h1.elim
theorem qe_not (ha : QE X a ta) : QE X (.UnaryOp .Not a pos) (dNotV ta) :=
  pe_mono (pe_not ha) fun τ H Q h => by
    obtain ⟨σ, G, N, R, hs, hg, ht, q⟩ := h
    refine ⟨σ, G, N, _, hs, hg, ht, fun x G1 N1 v1 H1 h1 s1 r1 => ?_⟩
    split at h1
    · exact ⟨_, r1.of_bl, (q.le s1).at s1.rel h1 (RD.bl _)⟩
    · exact h1.elim
def dIf (t : DT) (ta tb : DE) : DE := fun σ G R => t σ G fun c G1 => match c with | true => ta σ G1 R | false => tb σ G1 R
theorem qe_ifExp (hc : QT X c u) (ha : QE X a ta) (hb : QE X b tb) : QE X (.IfExp c a b pos) (dIf u ta tb) :=
  pe_mono (pe_ifExp hc ha hb) fun τ H Q h => by
    obtain ⟨σ, G, N, R, hs, hg, ht, q⟩ := h
    refine ⟨σ, G, N, _, hs, hg, ht, fun c G1 N1 H1 h1 s1 => ?_⟩
    cases c with
    | true => rw [if_pos rfl]; exact ⟨σ, G1, N1, R, hs.le s1.kp, s1.rel, h1, q.le s1⟩
    | false => rw [if_neg Bool.false_ne_true]; exact ⟨σ, G1, N1, R, hs.le s1.kp, s1.rel, h1, q.le s1⟩
/-! ### argument lists, displays -/
variable {es : List Expr} {tr : DA}
def dNil : DA := fun _ G R => R [] G
def dCons (ta : DE) (tr : DA) : DA := fun σ G R => ta σ G fun x G1 => tr σ G1 fun xs G2 => R (x :: xs) G2
theorem qa_nil : QA X [] dNil := pa_mono pa_nil fun τ H Q h => by
  obtain ⟨σ, G, N, R, hs, hg, ht, q⟩ := h
  exact q [] G N [] H ht (Stp.refl hg) RDs.nil
theorem qa_cons (ha : QE X e t) (hr : QA X es tr) (hs : starEach (e :: es) X.env = (false, eval e X.env) :: starEach es X.env := by rfl) : QA X (e :: es) (dCons t tr) :=
  pa_mono (pa_cons ha hr hs) fun τ H Q h => by
    obtain ⟨σ, G, N, R, hs, hg, ht, q⟩ := h
    refine ⟨σ, G, N, _, hs, hg, ht, fun x G1 N1 v1 H1 h1 s1 r1 => ?_⟩
    refine ⟨σ, G1, N1, _, hs.le s1.kp, s1.rel, h1, fun ds G2 N2 vs H2 h2 s2 r2 => ?_⟩
    exact q _ G2 N2 _ H2 h2 (s1.trans s2) (RDs.cons (r1.le s2.kp) r2)
/-- a new list: known (to be changed), or one that nobody changes -/
def newL (mk : Bool) (ds : List D) (G : Gp) (R : DK) : Prop := match mk with | true => ∀ p, G p = none → R (.ref p) (gup G p (.lst ds)) | false => R (.lst ds) G
theorem newL_ok {K : PySem.W.Frag} {mk : Bool} {H : Hp} {N : Ns} {G : Gp} {ds : List D} {vs : List V} {R : DK} {Q : VK} (r : RelG K H N G) (rd : RDs K H N ds vs) (h : newL mk ds G R) (q : UpQ K H N G R Q) {p : Addr} (np : H p = none) : Q (.ref p) (upd H p (.lst vs)) := by
  cases mk with
  | true =>
    exact q _ _ _ _ _ (h p (r.free np)) (Stp.new (u := .lst vs) (o := .lst ds) r np ⟨vs, upd_same, rd.le (Kp.new np)⟩) (RD.ref p)
  | false =>
    exact q _ _ _ _ _ h (Stp.newV (u := .lst vs) r np) (RD.lst (.inl ⟨upd_same, fun z => z.1 rfl⟩) (rd.le (Kp.newV np)))
theorem newT_ok {K : PySem.W.Frag} {H : Hp} {N : Ns} {G : Gp} {ds : List D} {vs : List V} {R : DK} {Q : VK} (r : RelG K H N G) (rd : RDs K H N ds vs) (h : R (.tup ds) G) (q : UpQ K H N G R Q) {p : Addr} (np : H p = none) : Q (.ref p) (upd H p (.tup vs)) :=
  q _ _ _ _ _ h (Stp.new0 (u := .tup vs) r np) (RD.tup (.inl (.inl upd_same)) (rd.le (Kp.new0 np)))
def dTup (t : DA) : DE := fun σ G R => t σ G fun ds G1 => ds.length ≤ sizeLine ∧ R (.tup ds) G1
def dLst (mk : Bool) (t : DA) : DE := fun σ G R => t σ G fun ds G1 => ds.length ≤ sizeLine ∧ newL mk ds G1 R
theorem qe_tup {x1} (h : QA X es tr) : QE X (.Tuple es x1 pos) (dTup tr) := pe_mono (pe_tup h) fun τ H Q h => by
  obtain ⟨σ, G, N, R, hs, hg, ht, q⟩ := h
  refine ⟨σ, G, N, _, hs, hg, ht, fun ds G1 N1 vs H1 h1 s1 r1 => ⟨by rw [← r1.length]; exact h1.1, fun p np => ?_⟩⟩
  exact newT_ok s1.rel r1 h1.2 (q.le s1) np
theorem qe_lst (mk : Bool) (h : QA X es tr) : QE X (.List es pos) (dLst mk tr) := pe_mono (pe_lst h) fun τ H Q h => by
  obtain ⟨σ, G, N, R, hs, hg, ht, q⟩ := h
  refine ⟨σ, G, N, _, hs, hg, ht, fun ds G1 N1 vs H1 h1 s1 r1 => ⟨by rw [← r1.length]; exact h1.1, fun p np => ?_⟩⟩
  exact newL_ok s1.rel r1 h1.2 (q.le s1) np
/-! ### calls of built-ins -/
def dCallB (r : DRn) (t : DA) : DE := fun σ G R => t σ G fun ds G1 => r ds G1 R
end
end DL

set_option Elab.async false
set_option linter.all false
set_option maxRecDepth 100000
set_option maxHeartbeats 4000000
set_option autoImplicit false
namespace DL
open PySem PySem.Spec PyProof.Rows L2

/-! ### blocks and small statements -/
theorem UpE.le {K : PySem.W.Frag} {H H1 : Hp} {N N1 : Ns} {G G1 : Gp} {E : DEnds} {D : Ends} (u : UpE K H N G E D) (s : Stp K H N G H1 N1 G1) : UpE K H1 N1 G1 E D :=
  ⟨fun σ' G' N' τ' H' h s' => u.nx σ' G' N' τ' H' h (s.trans s'), u.rt.le s, fun σ' G' N' τ' H' h s' => u.bk σ' G' N' τ' H' h (s.trans s'), fun σ' G' N' τ' H' h s' => u.ct σ' G' N' τ' H' h (s.trans s')⟩
section
variable {X : Cx} {st : Stmt} {rest : List Stmt} {t u : DS} {e : Expr} {te : DE} {pos : Pos}
def dNext : DS := fun D σ G => D.nx σ G
def dSeq (t u : DS) : DS := fun D σ G => t { D with nx := u D } σ G
theorem qss_nil : QSs X [] dNext := pss_mono pss_nil fun D τ H h => by
  obtain ⟨σ, G, N, E, hs, hg, ht, q⟩ := h
  exact q.nx _ _ _ _ _ ht (Stp.refl hg) hs
theorem qss_cons (h1 : QS X st t) (h2 : QSs X rest u) : QSs X (st :: rest) (dSeq t u) := pss_mono (pss_cons h1 h2) fun D τ H h => by
  obtain ⟨σ, G, N, E, hs, hg, ht, q⟩ := h
  refine ⟨σ, G, N, _, hs, hg, ht, ⟨fun σ' G' N' τ' H' h s' r => ?_, q.rt, q.bk, q.ct⟩⟩
  exact ⟨σ', G', N', E, r, s'.rel, h, q.le s'⟩
theorem qss_one (h1 : QS X st t) : QSs X [st] t := pss_mono (pss_one h1) fun D τ H h => h
def dBreak : DS := fun D σ G => D.bk σ G
def dCont : DS := fun D σ G => D.ct σ G
theorem qs_continue : QS X (.Continue pos) dCont := ps_mono ps_continue fun D τ H h => by
  obtain ⟨σ, G, N, E, hs, hg, ht, q⟩ := h
  exact q.ct _ _ _ _ _ ht (Stp.refl hg) hs
def dDrop (te : DE) : DS := fun D σ G => te σ G fun _ G1 => D.nx σ G1
/-- what may be said instead: fewer known things, a list that is left alone from now on -/
inductive Wk (G : Gp) : D → D → Gp → Prop where
  | same {d : D} {G0 : Gp} : Sub G0 G → Wk G d d G0
  | lst {p : Addr} {ds : List D} {G0 : Gp} : G p = some (.lst ds) → Sub G0 G → G0 p = none → Wk G (.ref p) (.lst ds) G0
theorem UpQ.wk {K : PySem.W.Frag} {H0 H : Hp} {N0 N : Ns} {G0 G G' : Gp} {R : DK} {Q : VK} {d d' : D} {v : V} (q : UpQ K H0 N0 G0 R Q) (s : Stp K H0 N0 G0 H N G) (rd : RD K H N d v) (w : Wk G d d' G') (h : R d' G') (hy : ∀ p, G p ≠ none → H0 p = none ∨ G0 p ≠ none) : Q v H := by
  cases w with
  | same sb => exact q _ _ _ _ _ h (s.trans (s.rel.sub sb)) rd
  | @lst p ds _ e sb n =>
    obtain rfl := rd.of_ref
    obtain ⟨hN, vs, hv, hd⟩ := s.rel p _ e
    have s2 := (s.trans (s.rel.sub sb)).calm (hy p (by rw [e]; simp)) n
    exact q _ _ _ _ _ h s2 (RD.lst (.inl ⟨hv, fun z => z.1 rfl⟩) (hd.le Kp.calm))
theorem Stp.old {K : PySem.W.Frag} {H0 H : Hp} {N0 N : Ns} {G0 G : Gp} (s : Stp K H0 N0 G0 H N G) (p : Addr) (h : G p ≠ none) : H0 p = none ∨ G0 p ≠ none := by
  cases e : H0 p with
  | none => exact .inl rfl
  | some u =>
    refine .inr fun n => h ?_
    exact (s.fr p u e n).2.1
def dRet (te : DE) : DS := fun D σ G => te σ G fun d G1 => ∃ d' G', Wk G1 d d' G' ∧ D.rt d' G'
theorem qs_ret (he : QE X e te) : QS X (.Return (some e) pos) (dRet te) := ps_mono (ps_ret he) fun D τ H h => by
  obtain ⟨σ, G, N, E, hs, hg, ht, q⟩ := h
  refine ⟨σ, G, N, _, hs, hg, ht, fun d G' N' v H' h s' r => ?_⟩
  obtain ⟨d', G2, w, h⟩ := h
  exact q.rt.wk s' r w h s'.old
def dRetN : DS := fun D _ G => ∃ G', Sub G' G ∧ D.rt .non G'
def dIfS (c : DT) (t u : DS) : DS := fun D σ G => c σ G fun b G1 => match b with | true => t D σ G1 | false => u D σ G1
theorem qs_if {c : Expr} {a b : List Stmt} {tc : DT} (hc : QT X c tc) (ha : QSs X a t) (hb : QSs X b u) : QS X (.If c a b pos) (dIfS tc t u) := ps_mono (ps_if hc ha hb) fun D τ H h => by
  obtain ⟨σ, G, N, E, hs, hg, ht, q⟩ := h
  refine ⟨σ, G, N, _, hs, hg, ht, fun b G1 N1 H1 h1 s1 => ?_⟩
  cases b with
  | true => rw [if_pos rfl]; exact ⟨σ, G1, N1, E, hs.le s1.kp, s1.rel, h1, q.le s1⟩
  | false => rw [if_neg Bool.false_ne_true]; exact ⟨σ, G1, N1, E, hs.le s1.kp, s1.rel, h1, q.le s1⟩
end
/-! ### targets -/
section
variable {X : Cx} {e : Expr} {te : DE} {pos : Pos}
def setAll (σ : Sd) : List Nat → List D → Sd
  | i :: is, d :: ds => setAll (σ.set i (some d)) is ds
  | _, _ => σ
def setAllV (σ : L2.St) : List Nat → List V → L2.St
  | i :: is, d :: ds => setAllV (σ.set i (some d)) is ds
  | _, _ => σ
theorem RSt.setAll {K : PySem.W.Frag} {H : Hp} {N : Ns} : ∀ (is : List Nat) {ds : List D} {vs : List V} {σ : Sd} {τ : L2.St}, RSt K H N σ τ → RDs K H N ds vs → RSt K H N (setAll σ is ds) (setAllV τ is vs)
  | [], _, _, _, _, h, _ => h
  | i :: is, [], _, _, _, h, r => by rw [r.of_nil]; exact h
  | i :: is, d :: ds, _, _, _, h, r => by
    obtain ⟨v, rr, rfl, r1, r2⟩ := r.of_cons
    exact RSt.setAll is (h.set r1 i) r2
/-- what a target does: by data, by values; the slots vs alone are changed -/
def TgOk (K : PySem.W.Frag) (vg : TG) (dg : DG) (ws : List Nat) : Prop :=
  ∀ (d : D) (v : V) (σ : Sd) (τ : L2.St) (H : Hp) (N : Ns) (G : Gp) (R : Sd → Gp → Prop) (Q : L2.St → Hp → Prop), RD K H N d v → RSt K H N σ τ → RelG K H N G → dg d σ G R →
    (∀ σ' τ', R σ' G → RSt K H N σ' τ' → wipe τ' ws = wipe τ ws → Q τ' H) → vg v τ H Q
theorem wipe_set {τ : L2.St} {i : Nat} {x : Option V} : ∀ {ws : List Nat}, i ∈ ws → wipe (τ.set i x) ws = wipe τ ws
  | [], h => by cases h
  | w :: ws, h => by
    unfold wipe
    by_cases e : i ∈ ws
    · rw [wipe_set e]
    · have e2 : i = w := by
        rcases List.mem_cons.mp h with h | h
        · exact h
        · exact absurd h e
      subst e2
      have aux : ∀ vs : List Nat, i ∉ vs → wipe (τ.set i x) vs = (wipe τ vs).set i x := by
        intro vs
        induction vs with
        | nil => intro _; rfl
        | cons v vs ih =>
          intro hv
          unfold wipe
          rw [ih (fun z => hv (List.mem_cons_of_mem _ z)), List.set_comm]
          exact fun z => hv (by rw [z]; exact List.mem_cons_self)
      rw [aux ws e, List.set_set]
def dName (i : Nat) : DG := fun d σ G R => R (σ.set i (some d)) G
theorem tg_name {K : PySem.W.Frag} {ws : List Nat} {i : Nat} (h : i ∈ ws) : TgOk K (gName i) (dName i) ws := fun d v σ τ H N G R Q rd rs rg h0 q => q _ _ h0 (rs.set rd i) (wipe_set h)
def gNames : List Nat → TGs
  | [] => gNil
  | i :: is => gCons (gName i) (gNames is)
theorem gNames_ok {Q : L2.St → Hp → Prop} : ∀ {is : List Nat} {vs : List V} {τ : L2.St} {H : Hp}, vs.length = is.length → Q (setAllV τ is vs) H → gNames is vs τ H Q
  | [], [], _, _, _, h => ⟨rfl, h⟩
  | [], _ :: _, _, _, e, _ => by simp at e
  | i :: is, [], _, _, e, _ => by simp at e
  | i :: is, v :: vs, τ, H, e, h => ⟨v, vs, rfl, gNames_ok (by simpa using e) h⟩
theorem wipe_setAll : ∀ {is : List Nat} {vs : List V} {τ : L2.St} {ws : List Nat}, (∀ i ∈ is, i ∈ ws) → wipe (setAllV τ is vs) ws = wipe τ ws
  | [], _, _, _, _ => by simp [setAllV]
  | i :: is, [], _, _, _ => by simp [setAllV]
  | i :: is, v :: vs, τ, ws, h => by
    rw [setAllV, wipe_setAll (fun j hj => h j (List.mem_cons_of_mem _ hj)), wipe_set (h i List.mem_cons_self)]
def dNames (is : List Nat) : DG := fun d σ G R => match d with | .tup ds => ds.length = is.length ∧ R (setAll σ is ds) G | _ => False
theorem tg_names {K : PySem.W.Frag} {ws is : List Nat} {n : Nat} (h : ∀ i ∈ is, i ∈ ws) (hn : is.length = n) : TgOk K (gTup K n (gNames is)) (dNames is) ws := fun d v σ τ H N G R Q rd rs rg h0 q => by
  unfold dNames at h0
  split at h0
  · rename_i ds
    obtain ⟨p, vs, rfl, sq, r⟩ := rd.of_tup
    have hl := r.length
    refine ⟨p, vs, rfl, sq, by omega, gNames_ok (by omega) ?_⟩
    exact q _ _ h0.2 (RSt.setAll is rs r) (wipe_setAll h)
  · exact h0.elim
/-- a target, by data -/
theorem qg_of {tg : Expr} {vg : TG} {dg : DG} {ws : List Nat} (h : PG X tg vg) (t : TgOk X.K vg dg ws) : QG X tg dg := pg_mono h fun v τ H Q h => by
  obtain ⟨d, σ, G, N, R, rd, rs, rg, h0, q⟩ := h
  exact t d v σ τ H N G R Q rd rs rg h0 fun σ' τ' h1 r1 _ => q _ _ _ _ _ h1 (Stp.refl rg) r1
/-- name = value -/
def dAsg (te : DE) (g : DG) : DS := fun D σ G => te σ G fun x G1 => g x σ G1 D.nx
theorem upS_asg {K : PySem.W.Frag} {g : DG} {D : Ends} {τ : L2.St} {H : Hp} (h : upS K (dAsg te g) D τ H) : tAsg (up K te) (upG K g) D τ H := by
  obtain ⟨σ, G, N, E, hs, hg, ht, q⟩ := h
  refine ⟨σ, G, N, _, hs, hg, ht, fun d G' N' v H' h s' r => ?_⟩
  exact ⟨d, σ, G', N', _, r, hs.le s'.kp, s'.rel, h, fun σ2 G2 N2 τ2 H2 h2 s2 r2 => q.nx _ _ _ _ _ h2 (s'.trans s2) r2⟩
theorem qs_set {i : Nat} {x : Str} {pos' : Pos} (hN : X.N.Nodup) (hi : X.N[i]? = some x) (hx : Loc X.env.scope x) (he : QE X e te) (hs : swapsWith e (some (.Name x pos')) pos.line X.env = pure false := by rfl) (hf : X.fn x = true ∨ X.env.scope.names.lookup x = some .local := by first | exact .inl rfl | exact .inr rfl | assumption) :
    QS X (.Assign [.Name x pos'] e pos) (dAsg te (dName i)) := ps_mono (ps_set hN hi hx he hs hf) fun D τ H h => by
  obtain ⟨σ, G, N, E, hs, hg, ht, q⟩ := h
  refine ⟨σ, G, N, _, hs, hg, ht, fun d G' N' v H' h s' r => ?_⟩
  exact q.nx _ _ _ _ _ h s' ((hs.le s'.kp).set r i)
theorem qs_asg {tg : Expr} {g : DG} (he : QE X e te) (hg : QG X tg g) (hs : swapsWithSole [tg] e pos.line X.env = pure false := by rfl) (hw : swappedStores [tg] e X.env = pure none := by rfl)
    (h1 : (assignEach [tg] X.env).map (·.2) = [assign tg X.env] := by rfl) : QS X (.Assign [tg] e pos) (dAsg te g) := ps_mono (ps_asg he hg hs hw h1) fun D τ H h => upS_asg h
/-- o[i] = .. , by data -/
abbrev DSet := D → D → D → Gp → (Gp → Prop) → Prop
def upSet (K : PySem.W.Frag) (r : DSet) : TSet := fun o i v H Q => ∃ c d e G N R, RD K H N c o ∧ RD K H N d i ∧ RD K H N e v ∧ RelG K H N G ∧ r c d e G R ∧ ∀ G' N' H', R G' → Stp K H N G H' N' G' → Q H'
def SetD (X : Cx) (r : DSet) : Prop := PSet X (upSet X.K r)
def dSub (to ti : DE) (r : DSet) : DG := fun v σ G R => to σ G fun o G1 => ti σ G1 fun i G2 => r o i v G2 fun G3 => R σ G3
theorem qg_sub {o i : Expr} {to ti : DE} {r : DSet} (ho : QE X o to) (hi : QE X i ti) (hs : SetD X r)
    (ha : ∀ v, assign (.Subscript o i pos) X.env v = (do
      let ov ← holding [v] (eval o X.env)
      let iv ← holding [v, ov] (eval i X.env)
      standAt pos
      holding [v, ov, iv] (setItem ov iv v)
      release [v, ov, iv] []) := by intro _; rfl) : QG X (.Subscript o i pos) (dSub to ti r) := pg_mono (pg_sub ho hi hs ha) fun v τ H Q h => by
  obtain ⟨d, σ, G, N, R, rd, rs, rg, h0, q⟩ := h
  refine ⟨σ, G, N, _, rs, rg, h0, fun x G1 N1 v1 H1 h1 s1 r1 => ?_⟩
  refine ⟨σ, G1, N1, _, rs.le s1.kp, s1.rel, h1, fun y G2 N2 v2 H2 h2 s2 r2 => ?_⟩
  exact ⟨x, y, d, G2, N2, _, r1.le s2.kp, r2, (rd.le s1.kp).le s2.kp, s2.rel, h2, fun G3 N3 H3 h3 s3 => q _ _ _ _ _ h3 ((s1.trans s2).trans s3) (((rs.le s1.kp).le s2.kp).le s3.kp)⟩
/-- name op= e -/
def dAug (i : Nat) (te : DE) (r : DR2) : DS := fun D σ G => match σ[i]? with | some (some x) => te σ G fun y G1 => r x y G1 fun z G2 => D.nx (σ.set i (some z)) G2 | _ => False
def GetD (X : Cx) (r : DR2) : Prop := PGet X (upR2 X.K r)
def dAugS (to ti te : DE) (rg rp : DR2) (rs : DSet) : DS := fun D σ G => to σ G fun o G1 => ti σ G1 fun i G2 => rg o i G2 fun x G3 => te σ G3 fun y G4 => rp x y G4 fun z G5 => rs o i z G5 fun G6 => D.nx σ G6
theorem qs_augS {o i : Expr} {to ti : DE} {rg rp : DR2} {rs : DSet} {op : Operator} {tpos : Pos} (ho : QE X o to) (hi : QE X i ti) (hg : GetD X rg) (he : QE X e te) (hp : OpD X (inplaceOp op) rp) (hs : SetD X rs)
    (ha : ∀ ov iv new, augStore i ov iv new = (do holding [new, ov, iv] (setItem ov iv new); release [new, ov, iv] []; pure .next) := by intros; rfl) : QS X (.AugAssign (.Subscript o i tpos) op e pos) (dAugS to ti te rg rp rs) :=
  ps_mono (ps_augS (tip := upR2 X.K rp) ho hi hg he (fun pins s σ H x y v u Q I r1 r2 q => hp pins s σ H x y v u Q I r1 r2 q) hs ha) fun D τ H h => by
  obtain ⟨σ, G, N, E, hs, hg, ht, q⟩ := h
  refine ⟨σ, G, N, _, hs, hg, ht, fun o G1 N1 v1 H1 h1 s1 r1 => ?_⟩
  refine ⟨σ, G1, N1, _, hs.le s1.kp, s1.rel, h1, fun i G2 N2 v2 H2 h2 s2 r2 => ?_⟩
  refine ⟨o, i, G2, N2, _, r1.le s2.kp, r2, s2.rel, h2, fun x G3 N3 v3 H3 h3 s3 r3 => ?_⟩
  have s13 := (s1.trans s2).trans s3
  refine ⟨σ, G3, N3, _, hs.le s13.kp, s3.rel, h3, fun y G4 N4 v4 H4 h4 s4 r4 => ?_⟩
  refine ⟨x, y, G4, N4, _, r3.le s4.kp, r4, s4.rel, h4, fun z G5 N5 v5 H5 h5 s5 r5 => ?_⟩
  have s25 := ((s2.trans s3).trans s4).trans s5
  have s15 := s1.trans s25
  exact ⟨o, i, z, G5, N5, _, r1.le s25.kp, r2.le ((s3.trans s4).trans s5).kp, r5, s5.rel, h5, fun G6 N6 H6 h6 s6 => q.nx _ _ _ _ _ h6 (s15.trans s6) (hs.le (s15.trans s6).kp)⟩
end
/-! ### while -/
section
variable {X : Cx} {pos : Pos}
def dWhN (c : DT) (tb : DS) (D : DEnds) : Nat → Sd → Gp → Prop
  | 0, _, _ => False
  | n + 1, σ, G => c σ G fun b G1 => match b with | true => tb { D with nx := dWhN c tb D n, ct := dWhN c tb D n, bk := D.nx } σ G1 | false => D.nx σ G1
def dWhile (c : DT) (tb : DS) : DS := fun D σ G => ∃ n, dWhN c tb D n σ G
theorem qs_while {c : Expr} {body : List Stmt} {tc : DT} {tb : DS} (hp : PassesOwn (model X.prog X.w) X.A X.env X.xe) (hc : QT X c tc) (hb : QSs X body tb) : QS X (.While c body [] pos) (dWhile tc tb) := ps_mono (ps_while hp hc hb) fun D τ H h => by
  obtain ⟨σ, G, N, E, hs, hg, ⟨n, ht⟩, q⟩ := h
  refine ⟨fun m τ' H' => ∃ σ' G' N', RSt X.K H' N' σ' τ' ∧ Stp X.K H N G H' N' G' ∧ dWhN tc tb E m σ' G', ⟨n, σ, G, N, hs, Stp.refl hg, ht⟩, ?_⟩
  rintro m τ1 H1 ⟨σ1, G1, N1, r1, s1, h1⟩
  cases m with
  | zero => exact h1.elim
  | succ m =>
    refine ⟨σ1, G1, N1, _, r1, s1.rel, h1, fun b G2 N2 H2 h2 s2 => ?_⟩
    cases b with
    | true =>
      rw [if_pos rfl]
      refine ⟨fun τ' H' => ∃ σ' G' N', RSt X.K H' N' σ' τ' ∧ Stp X.K H N G H' N' G' ∧ dWhN tc tb E m σ' G', fun τ' H' z => ⟨m, Nat.lt_succ_self m, z⟩, ?_⟩
      have s12 := s1.trans s2
      refine ⟨σ1, G2, N2, _, r1.le s2.kp, s2.rel, h2, ⟨fun σ' G' N' τ' H' h s' r => ⟨σ', G', N', r, s12.trans s', h⟩, (q.le s12).rt, fun σ' G' N' τ' H' h s' r => q.nx _ _ _ _ _ h (s12.trans s') r, fun σ' G' N' τ' H' h s' r => ⟨σ', G', N', r, s12.trans s', h⟩⟩⟩
    | false =>
      rw [if_neg Bool.false_ne_true]
      exact q.nx _ _ _ _ _ h2 (s1.trans s2) (r1.le s2.kp)
end
/-! ### what is walked -/
abbrev DI := Sd → Gp → (List D → (Gp → Prop) → Gp → Prop) → Prop
/-- J yields the things xs, one behind the other, wherever gd holds of what is known -/
structure Yl (K : PySem.W.Frag) (J : It) (H0 : Hp) (N0 : Ns) (G0 : Gp) (xs : List D) (gd : Gp → Prop) : Prop where
  go : ∀ i H N G d, Stp K H0 N0 G0 H N G → gd G → xs[i]? = some d → J.go i H ∧ ∀ x H', J.yld i H x H' → Stp K H N G H' N G ∧ RD K H' N d x
  stop : ∀ i H N G, Stp K H0 N0 G0 H N G → gd G → xs.length = i → J.stop i H
theorem Yl.of {K : PySem.W.Frag} {J : It} {H0 : Hp} {N0 : Ns} {G0 : Gp} {xs : List D} {gd : Gp → Prop} (go : ∀ i H N G d, Stp K H0 N0 G0 H N G → gd G → xs[i]? = some d → J.go i H ∧ ∀ x H', J.yld i H x H' → Stp K H N G H' N G ∧ RD K H' N d x)
    (stop : ∀ i H N G, Stp K H0 N0 G0 H N G → gd G → xs.length ≤ i → J.stop i H) : Yl K J H0 N0 G0 xs gd := ⟨go, fun i H N G s g e => stop i H N G s g (Nat.le_of_eq e)⟩
def upI (K : PySem.W.Frag) (ti : DI) : TI := fun τ H R => ∃ σ G N R', RSt K H N σ τ ∧ RelG K H N G ∧ ti σ G R' ∧ ∀ xs gd G' N' J H', R' xs gd G' → Stp K H N G H' N' G' → Yl K J H' N' G' xs gd → R J H'
def QI (X : Cx) (tg iter : Expr) (ti : DI) : Prop := PI X tg iter (upI X.K ti)
theorem pi_mono {X : Cx} {tg e : Expr} {t t' : TI} (h : PI X tg e t) (i : ∀ τ H Q, t' τ H Q → t τ H Q) : PI X tg e t' := ⟨fun pins s σ H Q I q => h.run pins s σ H Q I (i σ H Q q)⟩
def dForGo (g : DG) (tb : DS) (gd : Gp → Prop) (E : DEnds) : List D → Sd → Gp → Prop
  | [], σ, G => gd G ∧ E.nx σ G
  | x :: xs, σ, G => gd G ∧ g x σ G fun σ2 G2 => tb { E with nx := dForGo g tb gd E xs, ct := dForGo g tb gd E xs, bk := E.nx } σ2 G2
def dFor (ti : DI) (g : DG) (tb : DS) : DS := fun D σ G => ti σ G fun xs gd G1 => dForGo g tb gd D xs σ G1
section
variable {X : Cx} {tg : Expr} {pos : Pos}
theorem qs_for {iter : Expr} {body : List Stmt} {ti : DI} {g : DG} {tb : DS} (hp : PassesOwn (model X.prog X.w) X.A X.env X.xe) (hc : X.calm = true) (hi : QI X tg iter ti) (hg : QG X tg g) (hb : QSs X body tb)
    (hs : ∀ x, foldedSetIterable iter X.env x = pure x := by intro _; rfl) : QS X (.For tg iter body [] pos) (dFor ti g tb) := ps_mono (ps_for hp hc hi hg hb hs) fun D τ H h => by
  obtain ⟨σ, G, N, E, hs, hg, ht, q⟩ := h
  refine ⟨σ, G, N, _, hs, hg, ht, fun xs gd G1 N1 J H1 h1 s1 y => ?_⟩
  refine ⟨fun i m τ' H' => m = xs.length - i ∧ i ≤ xs.length ∧ ∃ σ' G' N', RSt X.K H' N' σ' τ' ∧ Stp X.K H1 N1 G1 H' N' G' ∧ dForGo g tb gd E (xs.drop i) σ' G', ⟨xs.length, rfl, Nat.zero_le _, σ, G1, N1, hs.le s1.kp, Stp.refl s1.rel, h1⟩, ?_⟩
  rintro i m τ2 H2 ⟨rfl, hi, σ2, G2, N2, r2, s2, h2⟩
  by_cases hlt : i < xs.length
  · rw [List.drop_eq_getElem_cons hlt] at h2
    obtain ⟨hgd, h2⟩ := h2
    obtain ⟨go, yld⟩ := y.go i H2 N2 G2 xs[i] s2 hgd (List.getElem?_eq_getElem hlt)
    refine .inr ⟨go, fun τ' H' => ∃ σ' G' N', RSt X.K H' N' σ' τ' ∧ Stp X.K H1 N1 G1 H' N' G' ∧ dForGo g tb gd E (xs.drop (i + 1)) σ' G', fun τ' H' z => ⟨xs.length - (i + 1), by omega, rfl, hlt, z⟩, fun x H3 hy => ?_⟩
    obtain ⟨s3, r3⟩ := yld x H3 hy
    refine ⟨xs[i], σ2, G2, N2, _, r3, r2.le s3.kp, s3.rel, h2, fun σ4 G4 N4 τ4 H4 h4 s4 r4 => ?_⟩
    have s14 := (s2.trans s3).trans s4
    refine ⟨σ4, G4, N4, _, r4, s4.rel, h4, ⟨fun σ' G' N' τ' H' h s' r => ⟨σ', G', N', r, s14.trans s', h⟩, (q.le (s1.trans s14)).rt, fun σ' G' N' τ' H' h s' r => q.nx _ _ _ _ _ h ((s1.trans s14).trans s') r, fun σ' G' N' τ' H' h s' r => ⟨σ', G', N', r, s14.trans s', h⟩⟩⟩
  · have e : i = xs.length := by omega
    subst e
    rw [List.drop_length] at h2
    exact .inl ⟨y.stop _ H2 N2 G2 s2 h2.1 rfl, q.nx _ _ _ _ _ h2.2 (s1.trans s2) r2⟩
end
/-! ### comprehensions -/
def wipeD (σ : Sd) : List Nat → Sd
  | [] => σ
  | v :: vs => (wipeD σ vs).set v none
theorem RSt.wipe {K : PySem.W.Frag} {H : Hp} {N : Ns} {σ : Sd} {τ : L2.St} (h : RSt K H N σ τ) : ∀ vs : List Nat, RSt K H N (wipeD σ vs) (L2.wipe τ vs)
  | [] => h
  | v :: vs => by
    have ih := RSt.wipe h vs
    unfold wipeD L2.wipe
    refine ⟨by rw [List.length_set, List.length_set]; exact ih.1, fun i d e => ?_⟩
    by_cases hj : v = i
    · subst hj
      rw [List.getElem?_set] at e
      simp only [if_true] at e
      split at e
      · cases e
      · cases e
    · rw [List.getElem?_set_ne hj] at e ⊢
      exact ih.2 i d e
def dLcGo (g : DG) (tt : DT) (te : DE) (gd : Gp → Prop) (σ : Sd) : List D → List D → Gp → (List D → Gp → Prop) → Prop
  | [], acc, G, Q => gd G ∧ Q acc G
  | x :: xs, acc, G, Q => gd G ∧ g x σ G fun σ2 G2 => tt σ2 G2 fun b G3 => match b with
    | true => te σ2 G3 fun y G4 => dLcGo g tt te gd σ xs (acc ++ [y]) G4 Q
    | false => dLcGo g tt te gd σ xs acc G3 Q
def dLc (mk : Bool) (ti : DI) (g : DG) (tt : DT) (te : DE) (ws : List Nat) : DE := fun σ G R => ti σ G fun xs gd G1 => xs.length ≤ sizeLine ∧ dLcGo g tt te gd (wipeD σ ws) xs [] G1 fun ds G2 => newL mk ds G2 R
def QTs (X : Cx) (ifs : List Expr) (t : DT) : Prop := PTs X ifs (upT X.K t)
def dYes : DT := fun _ G R => R true G
theorem qts_nil {X : Cx} : QTs X [] dYes := ⟨fun pins s σ H Q I h => (pts_nil (X := X)).run pins s σ H Q I (by
  obtain ⟨σ', G, N, R, hs, hg, ht, q⟩ := h
  exact q _ _ _ _ ht (Stp.refl hg))⟩
theorem up_lc {K : PySem.W.Frag} {mk : Bool} {ti : DI} {vg : TG} {g : DG} {tt : DT} {te : DE} {ws : List Nat} (tgo : TgOk K vg g ws) {τ : L2.St} {H : Hp} {Q : VK} (h : up K (dLc mk ti g tt te ws) τ H Q) : tLc (upI K ti) vg (upT K tt) (up K te) ws τ H Q := by
  obtain ⟨σ, G, N, R, hs, hg, ht, q⟩ := h
  refine ⟨σ, G, N, _, hs, hg, ht, fun xs gd G1 N1 J H1 h1 s1 y => ?_⟩
  obtain ⟨hlen, h1⟩ := h1
  intro p np
  have q1 := q.le s1
  let Q' : List D → Gp → Prop := fun ds G2 => newL mk ds G2 R
  refine ⟨fun i m H' => m = xs.length - i ∧ i ≤ xs.length ∧ ∃ acc vacc G' N', H' p = some (.lst vacc) ∧ RDs K H' N' acc vacc ∧ acc.length ≤ i ∧ G' p = none ∧ N' p ∧ Stp K H1 N1 G1 H' N' G' ∧ dLcGo g tt te gd (wipeD σ ws) (xs.drop i) acc G' Q',
    ⟨xs.length, rfl, Nat.zero_le _, [], [], G1, nadd N1 p, upd_same, RDs.nil, Nat.zero_le _, s1.rel.free np, .inl rfl, ?_, h1⟩, ?_⟩
  · refine ⟨Kp.new np, fun q x e n => ⟨by rw [upd_ne (ne_of_none e np)]; exact e, n, .inr⟩, fun a o' e => ?_⟩
    obtain ⟨x, hx, _⟩ := (s1.rel a o' e).2.here
    exact ⟨.inr (s1.rel a o' e).1, (s1.rel a o' e).2.le (Kp.new np) (upd_ne (ne_of_none hx np))⟩
  rintro i m H2 ⟨rfl, hi, acc, vacc, G2, N2, hp2, ra2, hal, gp2, nn2, s2, h2⟩
  by_cases hlt : i < xs.length
  · rw [List.drop_eq_getElem_cons hlt] at h2
    obtain ⟨hgd, h2⟩ := h2
    obtain ⟨go, yld⟩ := y.go i H2 N2 G2 xs[i] s2 hgd (List.getElem?_eq_getElem hlt)
    refine .inr ⟨go, fun H' => ∃ acc vacc G' N', H' p = some (.lst vacc) ∧ RDs K H' N' acc vacc ∧ acc.length ≤ i + 1 ∧ G' p = none ∧ N' p ∧ Stp K H1 N1 G1 H' N' G' ∧ dLcGo g tt te gd (wipeD σ ws) (xs.drop (i + 1)) acc G' Q', fun H' z => ⟨xs.length - (i + 1), by omega, rfl, hlt, z⟩, fun x H3 hy => ?_⟩
    obtain ⟨s3, r3⟩ := yld x H3 hy
    have rw3 : RSt K H3 N2 (wipeD σ ws) (L2.wipe τ ws) := (((hs.le s1.kp).le s2.kp).le s3.kp).wipe ws
    refine tgo xs[i] x (wipeD σ ws) (L2.wipe τ ws) H3 N2 G2 _ _ r3 rw3 s3.rel h2 fun σ4 τ4 h4 r4 w4 => ⟨?_, ?_⟩
    · rw [w4]
      have aux : ∀ (us vs : List Nat), (∀ v ∈ us, v ∈ vs) → L2.wipe (L2.wipe τ vs) us = L2.wipe τ vs := by
        intro us
        induction us with
        | nil => intro vs _; rfl
        | cons u us ih =>
          intro vs hv
          show (L2.wipe (L2.wipe τ vs) us).set u none = _
          rw [ih vs (fun v hv' => hv v (List.mem_cons_of_mem _ hv'))]
          have hm := hv u List.mem_cons_self
          apply List.ext_getElem?
          intro j
          by_cases hj : u = j
          · subst hj
            rw [List.getElem?_set]
            simp only [if_true]
            have hn : ∀ x, (L2.wipe τ vs)[u]? ≠ some (some x) := fun x e => (wipe_some e).2 hm
            split
            · rename_i hlt'
              rw [List.getElem?_eq_getElem hlt'] at hn ⊢
              cases e : (L2.wipe τ vs)[u] with
              | none => rfl
              | some z => exact absurd (by rw [e]) (hn z)
            · rename_i hge
              rw [List.getElem?_eq_none (by omega)]
          · rw [List.getElem?_set_ne hj]
      exact aux ws ws fun v h => h
    · refine ⟨σ4, G2, N2, _, r4, s3.rel, h4, fun b G5 N5 H5 h5 s5 => ?_⟩
      obtain ⟨hp3, gp3, _⟩ := s3.fr p _ hp2 gp2
      obtain ⟨hp5, gp5, nn5⟩ := s5.fr p _ hp3 gp3
      have s25 := (s2.trans s3).trans s5
      cases b with
      | false =>
        rw [if_neg Bool.false_ne_true]
        exact ⟨acc, vacc, G5, N5, hp5, (ra2.le s3.kp).le s5.kp, by omega, gp5, nn5 nn2, s25, h5⟩
      | true =>
        rw [if_pos rfl]
        refine ⟨σ4, G5, N5, _, r4.le s5.kp, s5.rel, h5, fun d G6 N6 v6 H6 h6 s6 r6 => ?_⟩
        obtain ⟨hp6, gp6, nn6⟩ := s6.fr p _ hp5 gp5
        have s26 := s25.trans s6
        have ra6 := ((ra2.le s3.kp).le s5.kp).le s6.kp
        have kw := Kp.write (u := .lst (vacc ++ [v6])) (nn6 (nn5 nn2)) hp6 rfl rfl
        have hl6 := ra6.length
        refine ⟨vacc, hp6, by omega, acc ++ [d], vacc ++ [v6], G6, N6, upd_same, (RDs.append ra6 (RDs.cons r6 RDs.nil)).le kw, by simp; omega, gp6, nn6 (nn5 nn2), s26.poke np hp6 gp6 (nn6 (nn5 nn2)) rfl rfl, h6⟩
  · have e : i = xs.length := by omega
    subst e
    rw [List.drop_length] at h2
    refine .inl ⟨y.stop _ H2 N2 G2 s2 h2.1 rfl, ?_⟩
    have h3 : newL mk acc G2 R := h2.2
    cases mk with
    | true =>
      refine q1 (.ref p) (gup G2 p (.lst acc)) N2 _ _ (h3 p gp2) (s2.know np nn2 ⟨vacc, hp2, ra2⟩) (RD.ref p)
    | false =>
      exact q1 (.lst acc) G2 (ndel N2 p) _ _ h3 (s2.calm (.inl np) gp2) (RD.lst (.inl ⟨hp2, fun z => z.1 rfl⟩) (ra2.le Kp.calm))
section
variable {X : Cx}
theorem qe_lc (mk : Bool) {elt tg iter : Expr} {ifs : List Expr} {scope : Scope} {own : List (Str × Nat)} {pos : Pos} {ti : DI} {vg : TG} {g : DG} {tt : DT} {te : DE} (hc : X.calm = true) (hN : X.N.Nodup) (hi : QI X tg iter ti) (ok : BlkOk X.N X.env.scope scope own)
    (hg : ∀ (s : Shared) (H : Hp) (C : Addr) (cl : List (Str × Addr)) (fp : List Addr), PG (X.blk s H scope (compEnvC scope cl C X.env) fp) tg vg) (tgo : TgOk X.K vg g (own.map (·.2)))
    (ht : ∀ (s : Shared) (H : Hp) (C : Addr) (cl : List (Str × Addr)) (fp : List Addr), QTs (X.blk s H scope (compEnvC scope cl C X.env) fp) ifs tt)
    (he : ∀ (s : Shared) (H : Hp) (C : Addr) (cl : List (Str × Addr)) (fp : List Addr), QE (X.blk s H scope (compEnvC scope cl C X.env) fp) elt te) (hs : ∀ x, foldedSetIterable iter X.env x = pure x := by intro _; rfl) :
    QE X (.ListComp elt [⟨tg, iter, ifs, 0⟩] scope pos) (dLc mk ti g tt te (own.map (·.2))) :=
  pe_mono (pe_lc (wi := upI X.K ti) (tt := upT X.K tt) (te := up X.K te) hc hN hi ok hg ht he hs) fun τ H Q h => up_lc tgo h
theorem qs_setLc (mk : Bool) {i : Nat} {y : Str} {py : Pos} {elt tg iter : Expr} {ifs : List Expr} {scope : Scope} {own : List (Str × Nat)} {pos spos : Pos} {ti : DI} {vg : TG} {g : DG} {tt : DT} {te : DE} (hc : X.calm = true) (hN : X.N.Nodup) (hy : X.N[i]? = some y) (hyl : X.env.scope.names.lookup y = some .local)
    (hsw : swapsWith (.ListComp elt [⟨tg, iter, ifs, 0⟩] scope pos) (some (.Name y py)) spos.line X.env = pure true) (hi : QI X tg iter ti) (ok : BlkOk X.N X.env.scope scope own)
    (hg : ∀ (s : Shared) (H : Hp) (C : Addr) (cl : List (Str × Addr)) (fp : List Addr), PG (X.blk s H scope (compEnvC scope cl C X.env) fp) tg vg) (tgo : TgOk X.K vg g (own.map (·.2)))
    (ht : ∀ (s : Shared) (H : Hp) (C : Addr) (cl : List (Str × Addr)) (fp : List Addr), QTs (X.blk s H scope (compEnvC scope cl C X.env) fp) ifs tt)
    (he : ∀ (s : Shared) (H : Hp) (C : Addr) (cl : List (Str × Addr)) (fp : List Addr), QE (X.blk s H scope (compEnvC scope cl C X.env) fp) elt te) (hs : ∀ x, foldedSetIterable iter X.env x = pure x := by intro _; rfl) :
    QS X (.Assign [.Name y py] (.ListComp elt [⟨tg, iter, ifs, 0⟩] scope pos) spos) (dAsg (dLc mk ti g tt te (own.map (·.2))) (dName i)) :=
  ps_mono (ps_setLc (wi := upI X.K ti) (tt := upT X.K tt) (te := up X.K te) hc hN hy hyl hsw hi ok hg ht he hs) fun D τ H h => by
    obtain ⟨σ, G, N, E, hs, hg, ht, q⟩ := h
    refine up_lc tgo ⟨σ, G, N, _, hs, hg, ht, fun d G' N' v H' h s' r => ?_⟩
    exact q.nx _ _ _ _ _ h s' ((hs.le s'.kp).set r i)
end
/-! ### defs -/
abbrev DSp := List D → Gp → DK → Prop
def upSp (K : PySem.W.Frag) (sp : DSp) : Sp := fun vs H Q _ => ∃ ds G N R, RDs K H N ds vs ∧ RelG K H N G ∧ sp ds G R ∧ UpQ K H N G R Q
/-- the def at f keeps the promise sp, by data; no exception leaves it -/
def FnD (P : Program) (w : World) (K : PySem.W.Frag) (mg : Str → Option Value) (base : Heap) (k : Nat) (f : Addr) (fd : FuncData) (ps : List Str) (sp : DSp) : Prop := FnOk P w K mg base CX0 k f fd ps (upSp K sp)
theorem FnD.mono {P : Program} {w : World} {K : PySem.W.Frag} {mg : Str → Option Value} {base : Heap} {j k : Nat} {f : Addr} {fd : FuncData} {ps : List Str} {sp : DSp} (F : FnD P w K mg base j f fd ps sp) (h : j ≤ k) : FnD P w K mg base k f fd ps sp := FnOk.mono F h
theorem FnD.imp {P : Program} {w : World} {K : PySem.W.Frag} {mg : Str → Option Value} {base : Heap} {k : Nat} {f : Addr} {fd : FuncData} {ps : List Str} {sp sp' : DSp} (F : FnD P w K mg base k f fd ps sp) (h : ∀ ds G R, sp' ds G R → sp ds G R) : FnD P w K mg base k f fd ps sp' :=
  FnOk.imp F fun vs H Q E ⟨ds, G, N, R, r1, r2, h1, q⟩ => ⟨ds, G, N, R, r1, r2, h ds G R h1, q⟩
def startD (n : Nat) (ds : List D) : Sd := ds.map some ++ List.replicate (n - ds.length) none
theorem RSt.begin {K : PySem.W.Frag} {H : Hp} {N : Ns} {M : List Str} {ds : List D} {vs : List V} (r : RDs K H N ds vs) : RSt K H N (startD M.length ds) (start M vs) := by
  have hl := r.length
  refine ⟨by unfold startD L2.start; simp; omega, fun i d e => ?_⟩
  unfold startD at e
  by_cases hi : i < ds.length
  · rw [List.getElem?_append_left (by simpa using hi), List.getElem?_map, List.getElem?_eq_getElem hi] at e
    have e' : ds[i] = d := by simpa using e
    obtain ⟨v, h1, h2⟩ := r.get (List.getElem?_eq_getElem hi)
    refine ⟨v, ?_, by rw [← e']; exact h2⟩
    unfold L2.start
    rw [List.getElem?_append_left (by rw [List.length_map]; omega), List.getElem?_map, h1]
    rfl
  · rw [List.getElem?_append_right (by simpa using hi), List.getElem?_replicate] at e
    split at e
    · cases e
    · cases e
section
variable {P : Program} {w : World} {K : PySem.W.Frag} {mg : Str → Option Value} {base : Heap}
theorem fun_okD {x qual : Str} {st : Stmt} {f : Addr} {fd : FuncData} {M ps : List Str} {k : Nat} {sp : DSp} (F : Fun K x qual st f fd) (S : FnScope M ps (defScope st)) (len : ∀ ds G R, sp ds G R → ds.length = ps.length)
    (hbody : ∀ (cdv : Value) (A : Around) (outer : List Env) (s : Shared) (H : Hp), Room k (A.deeper (envOfC qual (defScope st) s.heap.objs.size f cdv)) →
      ∃ t, QSs (cxOf CX0 P w K mg base M qual (defScope st) f cdv A outer s H E0).nox (defBody st) t ∧ ∀ (ds : List D) (G : Gp) (R : DK), sp ds G R → t { nx := fun _ G1 => ∃ G', Sub G' G1 ∧ R .non G', rt := R } (startD M.length ds) G) : FnD P w K mg base (k + 1) f fd ps sp := by
  refine F.ok S (fun vs H Q E h => ?_) (fun cdv A outer s H vs Q E hr h => ?_)
  · obtain ⟨ds, G, N, R, r1, _, h1, _⟩ := h
    rw [← r1.length]; exact len ds G R h1
  · obtain ⟨ds, G, N, R, r1, r2, h1, q⟩ := h
    obtain ⟨t, ht, hq⟩ := hbody cdv A outer s H hr
    refine ⟨upS K t, ht, startD M.length ds, G, N, _, RSt.begin r1, r2, hq ds G R h1, ⟨fun σ' G' N' τ' H' h s' r => ?_, q, fun _ _ _ _ _ h => h.elim, fun _ _ _ _ _ h => h.elim⟩⟩
    obtain ⟨G2, sb, h⟩ := h
    exact q _ _ _ _ _ h (s'.trans (s'.rel.sub sb)) RD.non
end
section
variable {X : Cx} {k : Nat} {f : Addr} {fd : FuncData} {ps : List Str} {sp : DSp} {x : Str} {p pos : Pos} {e : Expr} {es : List Expr} {t : DA}
def dCall (sp : DSp) (t : DA) : DE := fun σ G R => t σ G fun ds G1 => sp ds G1 R
theorem up_call {K : PySem.W.Frag} {τ : L2.St} {H : Hp} {Q : VK} (h : up K (dCall sp t) τ H Q) : tCall (upSp K sp) [] E0 (upA K t) τ H Q := by
  obtain ⟨σ, G, N, R, hs, hg, ht, q⟩ := h
  refine ⟨σ, G, N, _, hs, hg, ht, fun ds G1 N1 vs H1 h1 s1 r1 => ?_⟩
  show upSp K sp (vs ++ []) H1 Q E0
  rw [List.append_nil]
  exact ⟨ds, G1, N1, R, r1, s1.rel, h1, q.le s1⟩
theorem qe_call (F : FnD X.prog X.w X.K X.mg X.base k f fd ps sp) (hr : Room k X.A) (hg : Gl X x) (hm : X.mg x = some (.ref f)) (hk : PySem.W.keepIn X.K (.ref f) = true) (hb : Binds X.K fd ps []) (ha : QA X (e :: es) t)
    (hdb : (x == ("__debug__" : Str)) = false := by decide) (he : starEach (e :: es) X.env = (false, eval e X.env) :: starEach es X.env := by rfl) (hpl : (backTo pos (starEach es X.env)).any (·.1) = false := by rfl) :
    QE X (.Call (.Name x p) (e :: es) [] pos) (dCall sp t) := pe_mono (pe_call F hr hg hm hk hb .nil pass0 ha hdb he hpl) fun τ H Q h => up_call h
theorem up_cb {K : PySem.W.Frag} {r : DRn} {τ : L2.St} {H : Hp} {Q : VK} (h : up K (dCallB r t) τ H Q) : tCB (upRn K r) (upA K t) τ H Q := by
  obtain ⟨σ, G, N, R, hs, hg, ht, q⟩ := h
  refine ⟨σ, G, N, _, hs, hg, ht, fun ds G1 N1 vs H1 h1 s1 r1 => ?_⟩
  exact ⟨ds, G1, N1, R, r1, s1.rel, h1, q.le s1⟩
theorem qe_callB {id : String} {r : DRn} (hc : CallD X (.builtin id) r) (hg : Gl X x) (hm : X.mg x = none) (hv : bootBuiltins x = some (.builtin id)) (ha : QA X (e :: es) t) (hn : x ≠ "__name__" := by decide) (hdb : (x == ("__debug__" : Str)) = false := by decide)
    (he : starEach (e :: es) X.env = (false, eval e X.env) :: starEach es X.env := by rfl) (hpl : (backTo pos (starEach es X.env)).any (·.1) = false := by rfl) : QE X (.Call (.Name x p) (e :: es) [] pos) (dCallB r t) :=
  pe_mono (pe_callB hc hg hm hv ha hn hdb he hpl) fun τ H Q h => up_cb h
theorem qe_callTy {id : String} {r : DRn} (hc : CallD X (.type id) r) (hg : Gl X x) (hm : X.mg x = none) (hv : bootBuiltins x = some (.type id)) (ha : QA X (e :: es) t) (hn : x ≠ "__name__" := by decide) (hdb : (x == ("__debug__" : Str)) = false := by decide)
    (he : starEach (e :: es) X.env = (false, eval e X.env) :: starEach es X.env := by rfl) (hpl : (backTo pos (starEach es X.env)).any (·.1) = false := by rfl) : QE X (.Call (.Name x p) (e :: es) [] pos) (dCallB r t) :=
  pe_mono (pe_callTy hc hg hm hv ha hn hdb he hpl) fun τ H Q h => up_cb h
end
end DL

set_option Elab.async false
set_option linter.all false
set_option maxRecDepth 100000
set_option maxHeartbeats 4000000
set_option autoImplicit false
namespace DL
open PySem PySem.Spec PyProof.Rows L2

/-! ### lists by data -/
def lstOf (G : Gp) : D → Option (List D)
  | .lst ds => some ds
  | .ref a => match G a with | some (.lst ds) => some ds | _ => none
  | _ => none
theorem lstOf_ok {K : PySem.W.Frag} {H : Hp} {N : Ns} {G : Gp} {d : D} {v : V} {ds : List D} (rg : RelG K H N G) (rd : RD K H N d v) (h : lstOf G d = some ds) : ∃ p vs, v = .ref p ∧ SqL K H p vs ∧ RDs K H N ds vs := by
  cases d with
  | lst es =>
    obtain ⟨p, vs, rfl, l, r⟩ := rd.of_lst
    cases h
    exact ⟨p, vs, rfl, l.sq, r⟩
  | ref a =>
    obtain rfl := rd.of_ref
    unfold lstOf at h
    simp only at h
    split at h
    · rename_i es e
      cases h
      obtain ⟨_, vs, hv, r⟩ := rg a _ e
      exact ⟨a, vs, rfl, SqL.of hv, r⟩
    · cases h
  | _ => cases h
section
variable {X : Cx}
/-! ### list + list, whatever lists -/
def rCatL (K : PySem.W.Frag) : R2 := fun x y H Q => ∃ l b xs zs, x = .ref l ∧ y = .ref b ∧ SqL K H l xs ∧ SqL K H b zs ∧ xs.length + zs.length ≤ sizeLine ∧ ∀ p, H p = none → Q (.ref p) (upd H p (.lst (xs ++ zs)))
theorem op_catL : OpR X (binaryOp .Add) (rCatL X.K) := by
  intro pins s σ H x y v u Q I rx ry h
  obtain ⟨l, b, xs, zs, rfl, rfl, hH, hB, hz, q⟩ := h
  cases rx
  cases ry
  obtain ⟨its, r, pl, _⟩ := I.list hH
  obtain ⟨its2, r2, pl2, _⟩ := I.list hB
  obtain ⟨⟨cls, dd, data, sl⟩, ho, hc, n, hd⟩ := pl.isList
  obtain ⟨⟨cls2, dd2, data2, sl2⟩, ho2, hc2, n2, hd2⟩ := pl2.isList
  simp only at hc hd hc2 hd2
  subst hc hd hc2 hd2
  have hl := r.length
  have hl2 := r2.length
  have e : its.toArray ++ its2.toArray = (its ++ its2).toArray := by simp
  refine concat_meets ⟨_, ho, rfl⟩ ⟨_, ho2, rfl⟩ noFill_list_add seq_list_add PySem.F.slot_list_add PySem.F.entry_list_add (PySem.F.args_list_add_2 _ _) (list_addW l b its.toArray its2.toArray n n2 dd dd2 sl sl2 (by simp; omega)) ⟨ho, ho2, ?_⟩
  rw [e]
  exact ⟨.ref _, _, I.lnew (t' := s.toks) (r.append r2) (by rw [List.length_append]; omega), rfl, q _ I.fresh⟩
/-! ### arithmetic -/
theorem op_mulX : OpR X (binaryOp .Mult) (rI IntMulOk fun i j => .int (i * j)) := opI fun _ _ _ _ _ _ _ hc q => mul_int q hc
def CPowX (i j : Int) : Prop := 0 ≤ j ∧ (Builtin.Int.intBits i : Int) * j ≤ 2 ^ 27
theorem op_powX : OpR X (binaryOp .Pow) (rI CPowX fun i j => .int (i ^ j.toNat)) := opI fun _ _ _ _ _ _ _ hc q => pow_int hc.1 hc.2 q
def dAdd (mk : Bool) : DR2 := fun x y G R => match x, y with
  | .int i, .int j => R (.int (i + j)) G
  | .str a, .str b => a.length + b.length ≤ sizeLine ∧ R (.str (a ++ b)) G
  | .tup a, .tup b => a.length + b.length ≤ sizeLine ∧ R (.tup (a ++ b)) G
  | x, y => match lstOf G x, lstOf G y with | some a, some b => a.length + b.length ≤ sizeLine ∧ newL mk (a ++ b) G R | _, _ => False
theorem od_add (mk : Bool) : OpD X (binaryOp .Add) (dAdd mk) := opr_mono (op_add.or (op_add_str.or (op_catA.or op_catL))) fun x y H Q h => by
  obtain ⟨c, d, G, N, R, r1, r2, rg, h, q⟩ := h
  unfold dAdd at h
  split at h
  · rename_i i j
    obtain rfl := r1.of_int
    obtain rfl := r2.of_int
    exact .inl ⟨i, j, rfl, rfl, q.at rg h (RD.int _)⟩
  · rename_i i j
    obtain rfl := r1.of_str
    obtain rfl := r2.of_str
    exact .inr (.inl ⟨i, j, rfl, rfl, h.1, q.at rg h.2 (RD.str _)⟩)
  · rename_i a b
    obtain ⟨p, vs, rfl, s1, d1⟩ := r1.of_tup
    obtain ⟨p2, vs2, rfl, s2, d2⟩ := r2.of_tup
    have l1 := d1.length
    have l2 := d2.length
    refine .inr (.inr (.inl ⟨p, p2, vs, vs2, rfl, rfl, s1, s2, by omega, fun e => ?_, fun e e2 => ?_, fun e e2 p np => ?_⟩))
    · subst e
      have e3 : a = [] := List.eq_nil_of_length_eq_zero (by simpa using l1)
      subst e3
      exact q.at rg h.2 (RD.tup s2 d2)
    · subst e2
      have e3 : b = [] := List.eq_nil_of_length_eq_zero (by simpa using l2)
      subst e3
      rw [List.append_nil] at h
      exact q.at rg h.2 (RD.tup s1 d1)
    · exact newT_ok rg (d1.append d2) h.2 q np
  · split at h
    · rename_i a b ea eb
      obtain ⟨p, vs, rfl, s1, d1⟩ := lstOf_ok rg r1 ea
      obtain ⟨p2, vs2, rfl, s2, d2⟩ := lstOf_ok rg r2 eb
      have l1 := d1.length
      have l2 := d2.length
      exact .inr (.inr (.inr ⟨p, p2, vs, vs2, rfl, rfl, s1, s2, by omega, fun p np => newL_ok rg (d1.append d2) h.2 q np⟩))
    · exact h.elim
/-- two ints, under C -/
def dI (C : Int → Int → Prop) (g : Int → Int → D) : DR2 := fun x y G R => match x, y with | .int i, .int j => C i j ∧ R (g i j) G | _, _ => False
def dI0 (g : Int → Int → D) : DR2 := fun x y G R => match x, y with | .int i, .int j => R (g i j) G | _, _ => False
theorem od_I {f : Value → Value → Sem Value} {C : Int → Int → Prop} {g : Int → Int → Int} (h : OpR X f (rI C fun i j => .int (g i j))) : OpD X f (dI C fun i j => .int (g i j)) := opr_mono h fun x y H Q h => by
  obtain ⟨c, d, G, N, R, r1, r2, rg, h, q⟩ := h
  unfold dI at h
  split at h
  · obtain rfl := r1.of_int
    obtain rfl := r2.of_int
    exact ⟨_, _, rfl, rfl, h.1, q.at rg h.2 (RD.int _)⟩
  · exact h.elim
theorem od_I0 {f : Value → Value → Sem Value} {g : Int → Int → Int} (h : OpR X f (rI0 fun i j => .int (g i j))) : OpD X f (dI0 fun i j => .int (g i j)) := opr_mono h fun x y H Q h => by
  obtain ⟨c, d, G, N, R, r1, r2, rg, h, q⟩ := h
  unfold dI0 at h
  split at h
  · obtain rfl := r1.of_int
    obtain rfl := r2.of_int
    exact ⟨_, _, rfl, rfl, q.at rg h (RD.int _)⟩
  · exact h.elim
def dMinus : DR2 := dI0 fun i j => .int (i - j)
def dMul : DR2 := dI IntMulOk fun i j => .int (i * j)
def dFdiv : DR2 := dI CDivW fun i j => .int (i / j)
def dMod : DR2 := dI (fun _ j => 0 < j) fun i j => .int (i % j)
def dPow : DR2 := dI CPowX fun i j => .int (i ^ j.toNat)
def dShl : DR2 := dI CShl fun i j => .int (i * 2 ^ j.toNat)
def dBand : DR2 := dI0 fun i j => .int (Builtin.bitAnd i j)
def dBor : DR2 := dI0 fun i j => .int (Builtin.bitOr i j)
def dBxor : DR2 := dI0 fun i j => .int (Builtin.bitXor i j)
theorem od_sub : OpD X (binaryOp .Sub) dMinus := od_I0 op_sub
theorem od_mul : OpD X (binaryOp .Mult) dMul := od_I op_mulX
theorem od_fdiv : OpD X (binaryOp .FloorDiv) dFdiv := od_I op_fdivW
theorem od_mod : OpD X (binaryOp .Mod) dMod := od_I op_mod
theorem od_pow : OpD X (binaryOp .Pow) dPow := od_I op_powX
theorem od_shl : OpD X (binaryOp .LShift) dShl := od_I op_shlW
theorem od_band : OpD X (binaryOp .BitAnd) dBand := od_I0 op_and
theorem od_bor : OpD X (binaryOp .BitOr) dBor := od_I0 op_or
theorem od_bxor : OpD X (binaryOp .BitXor) dBxor := od_I0 op_xor
/-- += of ints, texts -/
def dIadd : DR2 := fun x y G R => match x, y with
  | .int i, .int j => R (.int (i + j)) G
  | .str a, .str b => a.length + b.length ≤ sizeLine ∧ R (.str (a ++ b)) G
  | _, _ => False
theorem od_iadd : OpD X (inplaceOp .Add) dIadd := opr_mono (iop_add.or iop_add_str) fun x y H Q h => by
  obtain ⟨c, d, G, N, R, r1, r2, rg, h, q⟩ := h
  unfold dIadd at h
  split at h
  · obtain rfl := r1.of_int
    obtain rfl := r2.of_int
    exact .inl ⟨_, _, rfl, rfl, q.at rg h (RD.int _)⟩
  · obtain rfl := r1.of_str
    obtain rfl := r2.of_str
    exact .inr ⟨_, _, rfl, rfl, h.1, q.at rg h.2 (RD.str _)⟩
  · exact h.elim
def dNeg : DR1 := fun x G R => match x with | .int i => R (.int (-i)) G | _ => False
theorem od_neg : UnD X (unaryOp .USub) dNeg := unr_mono un_neg fun x H Q h => by
  obtain ⟨c, G, N, R, r1, rg, h, q⟩ := h
  unfold dNeg at h
  split at h
  · obtain rfl := r1.of_int
    exact ⟨_, rfl, q.at rg h (RD.int _)⟩
  · exact h.elim
/-! ### comparisons -/
/-- the order of ints and of texts -/
def dOrd (pi : Int → Int → Bool) (ps : Str → Str → Bool) : DR2 := fun x y G R => match x, y with
  | .int i, .int j => R (.bl (pi i j)) G
  | .str a, .str b => R (.bl (ps a b)) G
  | _, _ => False
theorem od_ord {f : Value → Value → Sem Value} {pi : Int → Int → Bool} {ps : Str → Str → Bool} (h1 : OpR X f (rI0 fun i j => .bl (pi i j))) (h2 : OpR X f (fun x y H Q => ∃ i j, x = .str i ∧ y = .str j ∧ Q (.bl (ps i j)) H)) : OpD X f (dOrd pi ps) := opr_mono (h1.or h2) fun x y H Q h => by
  obtain ⟨c, d, G, N, R, r1, r2, rg, h, q⟩ := h
  unfold dOrd at h
  split at h
  · obtain rfl := r1.of_int
    obtain rfl := r2.of_int
    exact .inl ⟨_, _, rfl, rfl, q.at rg h (RD.bl _)⟩
  · obtain rfl := r1.of_str
    obtain rfl := r2.of_str
    exact .inr ⟨_, _, rfl, rfl, q.at rg h (RD.bl _)⟩
  · exact h.elim
def sLt (a b : Str) : Bool := decide (a.cps.toList < b.cps.toList)
def dLt : DR2 := dOrd (fun i j => decide (i < j)) fun a b => sLt a b
def dLe : DR2 := dOrd (fun i j => decide (i ≤ j)) fun a b => !sLt b a
def dGt : DR2 := dOrd (fun i j => decide (j < i)) fun a b => sLt b a
def dGe : DR2 := dOrd (fun i j => decide (j ≤ i)) fun a b => !sLt a b
theorem od_lt : OpD X (compareOp .Lt) dLt := od_ord op_lt op_lt_str
theorem od_gt : OpD X (compareOp .Gt) dGt := od_ord op_gt op_gt_str
theorem od_ge : OpD X (compareOp .GtE) dGe := od_ord op_ge op_ge_str
mutual
def toPy : D → Option PyData
  | .non => some .none
  | .bl b => some (.bool b)
  | .int i => some (.int i)
  | .str x => some (.str x)
  | .tup ds => (toPys ds).map .tuple
  | .lst ds => (toPys ds).map .list
  | _ => none
def toPys : List D → Option (List PyData)
  | [] => some []
  | d :: ds => match toPy d, toPys ds with | some a, some b => some (a :: b) | _, _ => none
end
mutual
theorem toPy_ok {K : PySem.W.Frag} {H : Hp} {N : Ns} : ∀ {d : D} {v : V} {a : PyData}, RD K H N d v → toPy d = some a → Dp K H v a
  | .non, _, _, r, h => by simp only [toPy] at h; cases h; rw [r.of_non]; exact .non
  | .bl b, _, _, r, h => by simp only [toPy] at h; cases h; rw [r.of_bl]; exact .bl b
  | .int b, _, _, r, h => by simp only [toPy] at h; cases h; rw [r.of_int]; exact .int b
  | .str b, _, _, r, h => by simp only [toPy] at h; cases h; rw [r.of_str]; exact .str b
  | .tup ds, _, _, r, h => by
    simp only [toPy] at h
    obtain ⟨p, vs, rfl, s, q⟩ := r.of_tup
    cases e : toPys ds with
    | none => rw [e] at h; cases h
    | some as => rw [e] at h; cases h; exact .tup s (toPys_ok q e)
  | .lst ds, _, _, r, h => by
    simp only [toPy] at h
    obtain ⟨p, vs, rfl, s, q⟩ := r.of_lst
    cases e : toPys ds with
    | none => rw [e] at h; cases h
    | some as => rw [e] at h; cases h; exact .lst s.sq (toPys_ok q e)
  | .nt _, _, _, r, h => by simp only [toPy] at h; cases h
  | .ty _, _, _, r, h => by simp only [toPy] at h; cases h
  | .ref _, _, _, r, h => by simp only [toPy] at h; cases h
  | .any _, _, _, r, h => by simp only [toPy] at h; cases h
theorem toPys_ok {K : PySem.W.Frag} {H : Hp} {N : Ns} : ∀ {ds : List D} {vs : List V} {as : List PyData}, RDs K H N ds vs → toPys ds = some as → DpAll K H vs as
  | [], _, _, r, h => by simp only [toPys] at h; cases h; rw [r.of_nil]; exact .nil
  | d :: ds, _, _, r, h => by
    obtain ⟨v, vs, rfl, r1, r2⟩ := r.of_cons
    simp only [toPys] at h
    split at h
    · rename_i a b ea eb
      cases h
      exact .cons (toPy_ok r1 ea) (toPys_ok r2 eb)
    · cases h
end
def gPy (G : Gp) (d : D) : Option PyData := match d with
  | .ref a => match G a with | some (.lst ds) => (toPys ds).map .list | _ => none
  | d => toPy d
theorem gPy_ok {K : PySem.W.Frag} {H : Hp} {N : Ns} {G : Gp} {d : D} {v : V} {a : PyData} (rg : RelG K H N G) (r : RD K H N d v) (h : gPy G d = some a) : Dp K H v a := by
  unfold gPy at h
  split at h
  · rename_i p
    split at h
    · rename_i ds e
      obtain ⟨_, vs, hv, rd⟩ := rg p _ e
      rw [r.of_ref]
      cases e2 : toPys ds with
      | none => rw [e2] at h; cases h
      | some as => rw [e2] at h; cases h; exact .lst (SqL.of hv) (toPys_ok rd e2)
    · cases h
  · exact toPy_ok r h
/-- ==, as a bool of the answer -/
def dEqW (f : Bool → Bool) : DR2 := fun x y G R => match x, y with
  | .int i, .int j => R (.bl (f (decide (i = j)))) G
  | .str i, .str j => R (.bl (f (decide (i = j)))) G
  | .bl i, .bl j => R (.bl (f (decide (i = j)))) G
  | .non, .non => R (.bl (f true)) G
  | x, y => match gPy G x, gPy G y with | some a, some b => SeqAt.shaped a = true ∧ SeqAt.shaped b = true ∧ R (.bl (f (PyData.eqv a b))) G | _, _ => False
theorem dec_int' {i j : Int} : decide (V.int i = V.int j) = decide (i = j) := by rw [Bool.eq_iff_iff]; simp
theorem dec_str' {i j : Str} : decide (V.str i = V.str j) = decide (i = j) := by rw [Bool.eq_iff_iff]; simp
theorem dec_bl' {i j : Bool} : decide (V.bl i = V.bl j) = decide (i = j) := by rw [Bool.eq_iff_iff]; simp
theorem od_eqW {f : Value → Value → Sem Value} {g : Bool → Bool} {H0 : Prop} (h1 : OpR X f (fun x y H Q => scal x y = true ∧ Q (.bl (g (decide (x = y)))) H))
    (h2 : OpR X f (fun x y H Q => ∃ d e, Dp X.K H x d ∧ Dp X.K H y e ∧ SeqAt.shaped d = true ∧ SeqAt.shaped e = true ∧ Q (.bl (g (PyData.eqv d e))) H)) : OpD X f (dEqW g) := opr_mono (h1.or h2) fun x y H Q h => by
  obtain ⟨c, d, G, N, R, r1, r2, rg, h, q⟩ := h
  unfold dEqW at h
  split at h
  · obtain rfl := r1.of_int
    obtain rfl := r2.of_int
    exact .inl ⟨rfl, by rw [dec_int']; exact q.at rg h (RD.bl _)⟩
  · obtain rfl := r1.of_str
    obtain rfl := r2.of_str
    exact .inl ⟨rfl, by rw [dec_str']; exact q.at rg h (RD.bl _)⟩
  · obtain rfl := r1.of_bl
    obtain rfl := r2.of_bl
    exact .inl ⟨rfl, by rw [dec_bl']; exact q.at rg h (RD.bl _)⟩
  · obtain rfl := r1.of_non
    obtain rfl := r2.of_non
    exact .inl ⟨rfl, by simpa using q.at rg h (RD.bl _)⟩
  · split at h
    · rename_i a b ea eb
      exact .inr ⟨a, b, gPy_ok rg r1 ea, gPy_ok rg r2 eb, h.1, h.2.1, q.at rg h.2.2 (RD.bl _)⟩
    · exact h.elim
def dEq : DR2 := dEqW id
def dNe : DR2 := dEqW not
theorem od_eq (hu : X.A.units + 64 < cLine) : OpD X (compareOp .Eq) dEq := od_eqW (H0 := True) (opr_mono op_eq fun _ _ _ _ h => h) (opr_mono (op_eqD hu) fun _ _ _ _ h => h)
theorem od_ne (hu : X.A.units + 64 < cLine) : OpD X (compareOp .NotEq) dNe := od_eqW (H0 := True) (opr_mono op_ne fun _ _ _ _ h => h) (opr_mono (op_neD hu) fun _ _ _ _ h => h)
/-- is None -/
def isNon : D → Bool | .non => true | _ => false
theorem isNon_ok {K : PySem.W.Frag} {H : Hp} {N : Ns} {d : D} {v : V} (r : RD K H N d v) : decide (v = .non) = isNon d := by
  cases d with
  | non => rw [r.of_non]; rfl
  | bl b => rw [r.of_bl]; rfl
  | int b => rw [r.of_int]; rfl
  | str b => rw [r.of_str]; rfl
  | ty b => rw [r.of_ty]; rfl
  | ref b => rw [r.of_ref]; rfl
  | any b => obtain ⟨a, u, rfl, _⟩ := r.of_any; rfl
  | nt b => obtain ⟨a, rfl, _⟩ := r.of_nt; rfl
  | tup b => obtain ⟨a, u, rfl, _⟩ := r.of_tup; rfl
  | lst b => obtain ⟨a, u, rfl, _⟩ := r.of_lst; rfl
def dIs : DR2 := fun x y G R => match y with | .non => R (.bl (isNon x)) G | _ => False
def dIsNot : DR2 := fun x y G R => match y with | .non => R (.bl (!isNon x)) G | _ => False
theorem od_is : OpD X (compareOp .Is) dIs := opr_mono op_isN fun x y H Q h => by
  obtain ⟨c, d, G, N, R, r1, r2, rg, h, q⟩ := h
  unfold dIs at h
  split at h
  · exact ⟨r2.of_non, by rw [isNon_ok r1]; exact q.at rg h (RD.bl _)⟩
  · exact h.elim
theorem od_isNot : OpD X (compareOp .IsNot) dIsNot := opr_mono op_notN fun x y H Q h => by
  obtain ⟨c, d, G, N, R, r1, r2, rg, h, q⟩ := h
  unfold dIsNot at h
  split at h
  · exact ⟨r2.of_non, by rw [isNon_ok r1]; exact q.at rg h (RD.bl _)⟩
  · exact h.elim
/-! ### in -/
/-- the things of a list or tuple -/
def seqOf (G : Gp) : D → Option (List D)
  | .tup ds => some ds
  | .nt zs => some (zs.map .str)
  | d => lstOf G d
theorem seqOf_ok {K : PySem.W.Frag} {H : Hp} {N : Ns} {G : Gp} {d : D} {v : V} {ds : List D} (rg : RelG K H N G) (rd : RD K H N d v) (h : seqOf G d = some ds) : ∃ p vs, v = .ref p ∧ (SqL K H p vs ∨ SqT K H p vs) ∧ RDs K H N ds vs := by
  unfold seqOf at h
  split at h
  · cases h
    obtain ⟨p, vs, rfl, s, r⟩ := rd.of_tup
    exact ⟨p, vs, rfl, .inr s, r⟩
  · rename_i zs
    cases h
    obtain ⟨p, rfl, s⟩ := rd.of_nt
    exact ⟨p, _, rfl, .inr s.sq, RDs.strs zs⟩
  · obtain ⟨p, vs, rfl, s, r⟩ := lstOf_ok rg rd h
    exact ⟨p, vs, rfl, .inl s, r⟩
/-! ### subscripts -/
def dIx : DR2 := fun x y G R => match x, y with
  | .str z, .int i => z.length ≤ sizeLine ∧ (match atI z.cps.toList i with | some c => R (.str ⟨#[c]⟩) G | none => False)
  | x, .int i => match seqOf G x with | some ds => (match atI ds i with | some d => R d G | none => False) | none => False
  | _, _ => False
theorem atI_rd {K : PySem.W.Frag} {H : Hp} {N : Ns} {ds : List D} {vs : List V} {i : Int} {d : D} (r : RDs K H N ds vs) (h : atI ds i = some d) : ∃ v, atI vs i = some v ∧ RD K H N d v := by
  unfold atI at h ⊢
  rw [← r.length]
  cases e : ixN ds.length i with
  | none => rw [e] at h; cases h
  | some j =>
    rw [e] at h
    obtain ⟨v, h1, h2⟩ := r.get (i := j) (d := d) h
    exact ⟨v, h1, h2⟩
theorem xd_ix : IxD X dIx := ixr_mono ix_seq fun x y H Q h => by
  obtain ⟨c, d, G, N, R, r1, r2, rg, h, q⟩ := h
  unfold dIx at h
  split at h
  · rename_i z i
    obtain rfl := r1.of_str
    obtain rfl := r2.of_int
    obtain ⟨hz, h⟩ := h
    split at h
    · rename_i c e
      exact .inr (.inr ⟨z, i, c, rfl, rfl, hz, e, q.at rg h (RD.str _)⟩)
    · exact h.elim
  · rename_i i _
    obtain rfl := r2.of_int
    split at h
    · rename_i ds e
      obtain ⟨p, vs, rfl, s, r⟩ := seqOf_ok rg r1 e
      split at h
      · rename_i d ed
        obtain ⟨v, hv, rv⟩ := atI_rd r ed
        rcases s with s | s
        · exact .inl ⟨p, vs, i, v, rfl, rfl, s, hv, q.at rg h rv⟩
        · exact .inr (.inl ⟨p, vs, i, v, rfl, rfl, s, hv, q.at rg h rv⟩)
      · exact h.elim
    · exact h.elim
  · exact h.elim
/-- a list's item stored -/
def dSetI : DSet := fun o i v G R => match o, i with
  | .ref a, .int k => match G a with | some (.lst ds) => (match ixN ds.length k with | some j => R (gup G a (.lst (ds.set j v))) | none => False) | _ => False
  | _, _ => False
theorem sd_set : SetD X dSetI := by
  intro pins s σ H o i v ov iv u Q I ro ri rv h
  refine set_list pins s σ H o i v ov iv u Q I ro ri rv ?_
  obtain ⟨c, d, e, G, N, R, r1, r2, r3, rg, h, q⟩ := h
  unfold dSetI at h
  split at h
  · rename_i a k
    obtain rfl := r1.of_ref
    obtain rfl := r2.of_int
    split at h
    · rename_i ds ea
      split at h
      · rename_i j ej
        obtain ⟨_, vs, hv, r⟩ := rg a _ ea
        refine ⟨a, vs, k, j, rfl, rfl, hv, by rw [← r.length]; exact ej, ?_⟩
        refine q _ N _ h (Stp.write (u := .lst (vs.set j v)) rg ea hv rfl rfl ⟨_, upd_same, ?_⟩)
        exact (RDs.set r3 j r).le (Kp.write (u := .lst (vs.set j v)) (rg a _ ea).1 hv rfl rfl)
      · exact h.elim
    · exact h.elim
  · exact h.elim
def dGetI : DR2 := fun x y G R => match x, y with
  | .ref a, .int i => (match G a with | some (.lst ds) => (match atI ds i with | some d => R d G | none => False) | _ => False)
  | _, _ => False
theorem gd_ix : GetD X dGetI := by
  intro pins s σ H o i ov iv Q I ro ri h
  obtain ⟨c, d, G, N, R, r1, r2, rg, h, q⟩ := h
  unfold dGetI at h
  split at h
  · rename_i a k
    obtain rfl := r1.of_ref
    obtain rfl := r2.of_int
    split at h
    · rename_i ds ea
      split at h
      · rename_i d ed
        obtain ⟨_, vs, hv, r⟩ := rg a _ ea
        obtain ⟨v, hv2, rv⟩ := atI_rd r ed
        cases ro
        obtain ⟨t, rfl⟩ := ri
        obtain ⟨its, rr, pl, hz⟩ := I.list (SqL.of hv)
        obtain ⟨j, h1, h2, h3, h4, h5⟩ := atI_get hv2
        obtain ⟨w, ew, ru⟩ := rr.get h2
        have hl := rr.length
        have hn := line63
        have fin : EP X pins σ Q w s := ⟨v, H, I, ru, q.at rg h rv⟩
        by_cases h0 : 0 ≤ k
        · have hj : k.toNat = j := by
            rw [seqIndex_of h0 h5] at h1
            exact Option.some.inj h1
          exact wpAny_getItem_list pl.isList h0 (by omega) (by rw [hj]; simpa using ew) fin
        · have hj : (k + (its.toArray.size : Int)).toNat = j := by
            rw [seqIndex_neg (by omega) h4] at h1
            rw [List.size_toArray, ← hl]
            exact Option.some.inj h1
          exact wpAny_getItem_list_neg pl.isList (by omega) (by rw [List.size_toArray] <;> omega) (by omega) (by rw [hj]; simpa using ew) fin
      · exact h.elim
    · exact h.elim
  · exact h.elim
end
end DL

set_option Elab.async false
set_option linter.all false
set_option maxRecDepth 100000
set_option maxHeartbeats 4000000
set_option autoImplicit false
namespace DL
open PySem PySem.Spec PyProof.Rows L2

/-! ### slices -/
abbrev DO := Sd → Gp → (Option Int → Gp → Prop) → Prop
def upO (K : PySem.W.Frag) (t : DO) : TO := fun τ H Q => ∃ σ G N R, RSt K H N σ τ ∧ RelG K H N G ∧ t σ G R ∧ ∀ o G' N' H', R o G' → Stp K H N G H' N' G' → Q o H'
def QO (X : Cx) (e : Option Expr) (t : DO) : Prop := PO X e (upO X.K t)
def dNoPart : DO := fun _ G R => R none G
def dPart (t : DE) : DO := fun σ G R => t σ G fun x G1 => match x with | .int i => R (some i) G1 | _ => False
theorem po_mono {X : Cx} {e : Option Expr} {t t' : TO} (h : PO X e t) (i : ∀ τ H Q, t' τ H Q → t τ H Q) : PO X e t' := ⟨fun pins s σ H Q I q => h.run pins s σ H Q I (i σ H Q q)⟩
def cutL {α : Type} (xs : List α) (lo hi : Option Int) : List α := (xs.drop (HT.sIx xs.length 0 lo)).take (HT.sIx xs.length xs.length hi - HT.sIx xs.length 0 lo)
theorem RDs.cut {K : PySem.W.Frag} {H : Hp} {N : Ns} {ds : List D} {vs : List V} (r : RDs K H N ds vs) (lo hi : Option Int) : RDs K H N (cutL ds lo hi) (cutV vs lo hi) := by
  unfold cutL cutV
  rw [r.length]
  exact RDs.take _ (RDs.drop _ r)
theorem cut_whole {α : Type} {xs : List α} {lo hi : Option Int} (h : HT.sIx xs.length 0 lo = 0 ∧ HT.sIx xs.length xs.length hi = xs.length) : cutL xs lo hi = xs := by
  unfold cutL
  rw [h.1, h.2, List.drop_zero, Nat.sub_zero, List.take_length]
def dSl (mk : Bool) : D → Option Int → Option Int → Gp → DK → Prop := fun x lo hi G R => match x with
  | .str z => z.length ≤ sizeLine ∧ R (.str (cutS z lo hi)) G
  | .tup ds => R (.tup (cutL ds lo hi)) G
  | x => match lstOf G x with | some ds => newL mk (cutL ds lo hi) G R | none => False
def dSlice (mk : Bool) (te : DE) (tl th : DO) : DE := fun σ G R => te σ G fun x G1 => tl σ G1 fun l G2 => th σ G2 fun u G3 => dSl mk x l u G3 R
section
variable {X : Cx} {e : Expr} {te : DE} {pos : Pos}
theorem qo_none : QO X none dNoPart := po_mono po_none fun τ H Q h => by
  obtain ⟨σ, G, N, R, hs, hg, ht, q⟩ := h
  exact q _ _ _ _ ht (Stp.refl hg)
theorem qo_some (h : QE X e te) : QO X (some e) (dPart te) := po_mono (po_some h) fun τ H Q h => by
  obtain ⟨σ, G, N, R, hs, hg, ht, q⟩ := h
  refine ⟨σ, G, N, _, hs, hg, ht, fun d G1 N1 v1 H1 h1 s1 r1 => ?_⟩
  split at h1
  · exact ⟨_, r1.of_int, q _ _ _ _ h1 s1⟩
  · exact h1.elim
theorem qe_slice (mk : Bool) {lo hi : Option Expr} {tl th : DO} {p2 : Pos} (he : QE X e te) (hl : QO X lo tl) (hu : QO X hi th) : QE X (.Subscript e (.Slice lo hi none p2) pos) (dSlice mk te tl th) :=
  pe_mono (pe_slice (sl_str.or (sl_tupA.or sl_list)) he hl hu) fun τ H Q h => by
    obtain ⟨σ, G, N, R, hs, hg, ht, q⟩ := h
    refine ⟨σ, G, N, _, hs, hg, ht, fun d G1 N1 v1 H1 h1 s1 r1 => ?_⟩
    refine ⟨σ, G1, N1, _, hs.le s1.kp, s1.rel, h1, fun l G2 N2 H2 h2 s2 => ?_⟩
    refine ⟨σ, G2, N2, _, (hs.le s1.kp).le s2.kp, s2.rel, h2, fun u G3 N3 H3 h3 s3 => ?_⟩
    have s13 := (s1.trans s2).trans s3
    have r3 := (r1.le s2.kp).le s3.kp
    have q3 := q.le s13
    have rg := s3.rel
    unfold dSl at h3
    split at h3
    · obtain rfl := r3.of_str
      exact .inl ⟨_, rfl, h3.1, q3.at rg h3.2 (RD.str _)⟩
    · rename_i ds
      obtain ⟨p, vs, rfl, sq, r⟩ := r3.of_tup
      have hlen := r.length
      refine .inr (.inl ⟨p, vs, rfl, sq, fun hw => ?_, fun hw p np => ?_⟩)
      · rw [cut_whole (by rw [hlen]; exact hw)] at h3
        exact q3.at rg h3 (RD.tup sq r)
      · exact newT_ok rg (r.cut l u) h3 q3 np
    · split at h3
      · rename_i ds ed
        obtain ⟨p, vs, rfl, sq, r⟩ := lstOf_ok rg r3 ed
        exact .inr (.inr ⟨p, vs, rfl, sq, fun p np => newL_ok rg (r.cut l u) h3 q3 np⟩)
      · exact h3.elim
end
/-! ### t[::-1] -/
section
variable {prog : Program} {w : World} {A : Around} {E : Value → Shared → Prop} {s : Shared}
end
section
variable {X : Cx}
def dRev (mk : Bool) (te : DE) : DE := fun σ G R => te σ G fun x G1 => match x with
  | .tup ds => R (.tup ds.reverse) G1
  | x => match lstOf G1 x with | some ds => newL mk ds.reverse G1 R | none => False
/-! ### built-ins -/
theorem up_rn {f : Value} {r : DRn} {rv : List V → Hp → VK → Prop} (h : CallR X f rv) (i : ∀ cs G N R xs H Q, RDs X.K H N cs xs → RelG X.K H N G → r cs G R → UpQ X.K H N G R Q → rv xs H Q) : CallD X f r := callr_mono h fun xs H Q h => by
  obtain ⟨cs, G, N, R, r1, rg, h, q⟩ := h
  exact i cs G N R xs H Q r1 rg h q
def dLen : DRn := fun cs G R => match cs with
  | [.str z] => z.length ≤ sizeLine ∧ R (.int z.length) G
  | [x] => match seqOf G x with | some ds => R (.int ds.length) G | none => False
  | _ => False
theorem cd_len : CallD X (.builtin "len") dLen := up_rn (call_len_str.or call_len_seq) fun cs G N R xs H Q rd rg h q => by
  unfold dLen at h
  split at h
  · obtain ⟨v, r, rfl, r1, r2⟩ := rd.of_cons
    rw [r1.of_str, r2.of_nil]
    exact .inl ⟨_, rfl, h.1, q.at rg h.2 (RD.int _)⟩
  · obtain ⟨v, r, rfl, r1, r2⟩ := rd.of_cons
    rw [r2.of_nil]
    split at h
    · rename_i ds e
      obtain ⟨p, vs, rfl, s, r⟩ := seqOf_ok rg r1 e
      refine .inr ⟨p, vs, rfl, s, ?_⟩
      rw [← r.length]
      exact q.at rg h (RD.int _)
    · exact h.elim
  · exact h.elim
def blsOf : List D → Option (List Bool)
  | [] => some []
  | .bl b :: r => match blsOf r with | some bs => some (b :: bs) | none => none
  | _ => none
theorem blsOf_ok : ∀ {ds : List D} {bs : List Bool}, blsOf ds = some bs → ds = bs.map D.bl
  | [], _, h => by cases h; rfl
  | .bl b :: r, _, h => by
    unfold blsOf at h
    split at h
    · rename_i bs e
      cases h
      rw [blsOf_ok e]; rfl
    · cases h
  | .non :: r, _, h => by simp [blsOf] at h
  | .int _ :: r, _, h => by simp [blsOf] at h
  | .str _ :: r, _, h => by simp [blsOf] at h
  | .ty _ :: r, _, h => by simp [blsOf] at h
  | .ref _ :: r, _, h => by simp [blsOf] at h
  | .any _ :: r, _, h => by simp [blsOf] at h
  | .tup _ :: r, _, h => by simp [blsOf] at h
  | .lst _ :: r, _, h => by simp [blsOf] at h
theorem blsOf_map : ∀ bs : List Bool, blsOf (bs.map D.bl) = some bs
  | [] => rfl
  | b :: bs => by rw [List.map_cons]; unfold blsOf; rw [blsOf_map bs]
def dAll : DRn := fun cs G R => match cs with
  | [x] => match (lstOf G x).bind blsOf with | some bs => R (.bl (bs.all id)) G | none => False
  | _ => False
theorem bls_at {K : PySem.W.Frag} {H : Hp} {N : Ns} {G : Gp} {d : D} {v : V} {bs : List Bool} (rg : RelG K H N G) (rd : RD K H N d v) (h : (lstOf G d).bind blsOf = some bs) : ∃ p, v = .ref p ∧ SqL K H p (bs.map V.bl) := by
  cases e : lstOf G d with
  | none => rw [e] at h; cases h
  | some ds =>
    rw [e] at h
    obtain ⟨p, vs, rfl, s, r⟩ := lstOf_ok rg rd e
    have e2 := blsOf_ok (show blsOf ds = some bs from h)
    subst e2
    rw [r.of_bls] at s
    exact ⟨p, rfl, s⟩
theorem cd_all (hc : X.calm = true) : CallD X (.builtin "all") dAll := up_rn (cr_all hc) fun cs G N R xs H Q rd rg h q => by
  unfold dAll at h
  split at h
  · obtain ⟨v, r, rfl, r1, r2⟩ := rd.of_cons
    rw [r2.of_nil]
    split at h
    · rename_i bs e
      obtain ⟨p, rfl, s⟩ := bls_at rg r1 e
      exact ⟨p, bs, rfl, s, q.at rg h (RD.bl _)⟩
    · exact h.elim
  · exact h.elim
def dMax2 : DRn := fun cs G R => match cs with | [.int i, .int j] => R (.int (if j > i then j else i)) G | _ => False
def dMin2 : DRn := fun cs G R => match cs with | [.int i, .int j] => R (.int (if j < i then j else i)) G | _ => False
theorem cd_max2 (hc : X.calm = true) : CallD X (.builtin "max") dMax2 := up_rn (call_max2 hc) fun cs G N R xs H Q rd rg h q => by
  unfold dMax2 at h
  split at h
  · obtain ⟨v, r, rfl, r1, r2⟩ := rd.of_cons
    obtain ⟨v', r', rfl, r3, r4⟩ := r2.of_cons
    rw [r4.of_nil, r1.of_int, r3.of_int]
    exact ⟨_, _, rfl, q.at rg h (RD.int _)⟩
  · exact h.elim
theorem cd_min2 (hc : X.calm = true) : CallD X (.builtin "min") dMin2 := up_rn (call_min2 hc) fun cs G N R xs H Q rd rg h q => by
  unfold dMin2 at h
  split at h
  · obtain ⟨v, r, rfl, r1, r2⟩ := rd.of_cons
    obtain ⟨v', r', rfl, r3, r4⟩ := r2.of_cons
    rw [r4.of_nil, r1.of_int, r3.of_int]
    exact ⟨_, _, rfl, q.at rg h (RD.int _)⟩
  · exact h.elim
def dTuple : DRn := fun cs G R => match cs with | [x] => (match seqOf G x with | some ds => R (.tup ds) G | none => False) | _ => False
def dList (mk : Bool) : DRn := fun cs G R => match cs with | [x] => (match seqOf G x with | some ds => newL mk ds G R | none => False) | _ => False
theorem cd_tuple : CallD X (.type "tuple") dTuple := up_rn call_tuple_of fun cs G N R xs H Q rd rg h q => by
  unfold dTuple at h
  split at h
  · obtain ⟨v, r, rfl, r1, r2⟩ := rd.of_cons
    rw [r2.of_nil]
    split at h
    · rename_i ds e
      obtain ⟨p, vs, rfl, s, r⟩ := seqOf_ok rg r1 e
      refine ⟨p, vs, rfl, ?_⟩
      rcases s with s | s
      · exact .inl ⟨s, fun p np => newT_ok rg r h q np⟩
      · exact .inr ⟨s, q.at rg h (RD.tup s r)⟩
    · exact h.elim
  · exact h.elim
theorem cd_list (mk : Bool) : CallD X (.type "list") (dList mk) := up_rn call_list_of fun cs G N R xs H Q rd rg h q => by
  unfold dList at h
  split at h
  · obtain ⟨v, r, rfl, r1, r2⟩ := rd.of_cons
    rw [r2.of_nil]
    split at h
    · rename_i ds e
      obtain ⟨p, vs, rfl, s, r⟩ := seqOf_ok rg r1 e
      exact ⟨p, vs, rfl, s, fun p np => newL_ok rg r h q np⟩
    · exact h.elim
  · exact h.elim
def dInt : DRn := fun cs G R => match cs with | [.int i] => R (.int i) G | [.bl b] => R (.int (if b then 1 else 0)) G | _ => False
theorem cd_int : CallD X (.type "int") dInt := up_rn call_int1 fun cs G N R xs H Q rd rg h q => by
  unfold dInt at h
  split at h
  · obtain ⟨v, r, rfl, r1, r2⟩ := rd.of_cons
    rw [r2.of_nil, r1.of_int]
    exact .inl ⟨_, rfl, q.at rg h (RD.int _)⟩
  · obtain ⟨v, r, rfl, r1, r2⟩ := rd.of_cons
    rw [r2.of_nil, r1.of_bl]
    exact .inr ⟨_, rfl, q.at rg h (RD.int _)⟩
  · exact h.elim
def dStrI : DRn := fun cs G R => match cs with | [.int i] => i.natAbs.log2 < 1920 ∧ R (.str (toString i)) G | _ => False
/-- the type of data -/
def tyD (G : Gp) : D → Option String
  | .non => some "NoneType" | .bl _ => some "bool" | .int _ => some "int" | .str _ => some "str" | .tup _ => some "tuple" | .nt _ => some "tuple" | .lst _ => some "list"
  | .any n => if n = "list" ∨ n = "dict" then some n else none
  | .ref a => match G a with | some (.lst _) => some "list" | some (.dK _) => some "dict" | some (.dT _) => some "dict" | _ => none
  | _ => none
def isTy (t n : String) : Bool := t == n || (t == "bool" && n == "int")
def knownTy : List String := ["int", "bool", "str", "tuple", "list", "dict"]
def dIsi : DRn := fun cs G R => match cs with
  | [x, .ty n] => n ∈ knownTy ∧ (match tyD G x with | some t => R (.bl (isTy t n)) G | none => False)
  | _ => False
theorem kits : ∀ t ∈ ["NoneType", "bool", "int", "str", "tuple", "list", "dict"], ∀ n ∈ knownTy, kitB t n = some (isTy t n) := by decide +kernel
theorem knd_ty {K : PySem.W.Frag} {H : Hp} {a : Addr} {u : HO} {n : String} (h : H a = some u) (k : knd u = n) (d : n = "list" ∨ n = "dict") : TyX K H (.ref a) (.type n) := by
  subst k
  cases u with
  | lst _ => exact .base (.lst h)
  | dK _ => exact .base (.dK h)
  | dT _ => exact .base (.dT h)
  | frz o z =>
    cases z with
    | lst _ => exact .base (.frz h)
    | dK _ => exact .fDict h
    | _ => simp [knd] at d
  | _ => simp [knd] at d
theorem tyD_ok {K : PySem.W.Frag} {H : Hp} {N : Ns} {G : Gp} {d : D} {v : V} {t : String} (rg : RelG K H N G) (rd : RD K H N d v) (h : tyD G d = some t) : TyX K H v (.type t) ∧ t ∈ ["NoneType", "bool", "int", "str", "tuple", "list", "dict"] := by
  cases d with
  | non => cases h; rw [rd.of_non]; exact ⟨.base .non, by decide⟩
  | bl b => cases h; rw [rd.of_bl]; exact ⟨.base (.bl _), by decide⟩
  | int b => cases h; rw [rd.of_int]; exact ⟨.base (.int _), by decide⟩
  | str b => cases h; rw [rd.of_str]; exact ⟨.base (.str _), by decide⟩
  | ty b => cases h
  | nt zs =>
    cases h
    obtain ⟨p, rfl, s⟩ := rd.of_nt
    refine ⟨?_, by decide⟩
    rcases s with ⟨o, s, _⟩ | ⟨o, its, n, e, c, _⟩
    · exact .fTuple s
    · exact .kTuple e c
  | tup ds =>
    cases h
    obtain ⟨p, vs, rfl, s, r⟩ := rd.of_tup
    refine ⟨?_, by decide⟩
    rcases s with (s | ⟨o, s⟩) | ⟨o, its, n, e, c, _⟩
    · exact .base (.tup s)
    · exact .fTuple s
    · exact .kTuple e c
  | lst ds =>
    cases h
    obtain ⟨p, vs, rfl, s, r⟩ := rd.of_lst
    refine ⟨?_, by decide⟩
    rcases s with ⟨s, _⟩ | ⟨o, s⟩ | ⟨o, its, n, e, c, _⟩
    · exact .base (.lst s)
    · exact .base (.frz s)
    · exact .kList e c
  | any n =>
    obtain ⟨a, u, rfl, hu, k⟩ := rd.of_any
    unfold tyD at h
    simp only at h
    split at h
    · rename_i d
      cases h
      refine ⟨knd_ty hu k d, ?_⟩
      rcases d with d | d
      · subst d; decide
      · subst d; decide
    · cases h
  | ref a =>
    obtain rfl := rd.of_ref
    unfold tyD at h
    simp only at h
    split at h
    · rename_i ds e
      cases h
      obtain ⟨_, vs, hv, _⟩ := rg a _ e
      exact ⟨.base (.lst hv), by decide⟩
    · rename_i ds e
      cases h
      obtain ⟨_, vs, hv, _⟩ := rg a _ e
      exact ⟨.base (.dK hv), by decide⟩
    · rename_i ds e
      cases h
      obtain ⟨_, vs, hv, _⟩ := rg a _ e
      exact ⟨.base (.dT hv), by decide⟩
    · cases h
theorem cd_isi : CallD X (.builtin "isinstance") dIsi := up_rn call_isi fun cs G N R xs H Q rd rg h q => by
  unfold dIsi at h
  split at h
  · rename_i x n
    obtain ⟨hn, h⟩ := h
    obtain ⟨v, r, rfl, r1, r2⟩ := rd.of_cons
    obtain ⟨v', r', rfl, r3, r4⟩ := r2.of_cons
    rw [r4.of_nil, r3.of_ty]
    split at h
    · rename_i t et
      obtain ⟨ty, mt⟩ := tyD_ok rg r1 et
      exact ⟨v, _, .type t, .type n, isTy t n, rfl, .ty n, ty, kit_ty (kits t mt n hn), q.at rg h (RD.bl _)⟩
    · exact h.elim
  · exact h.elim
/-- a built-in type's name, as a value -/
theorem qe_ty {x : Str} {n : String} {pos : Pos} (hg : Gl X x) (hm : X.mg x = none) (hv : bootBuiltins x = some (.type n)) (hn : x ≠ "__name__" := by decide) (hd : (x == ("__debug__" : Str)) = false := by decide) : QE X (.Name x pos) (dC (.ty n)) :=
  pe_mono (pe_bltn hg hm hv (v := .ty n) rfl hn hd) fun _ _ _ h => up_c (fun _ _ => RD.ty n) h
/-! ### methods -/
def MtD (X : Cx) (id : String) (r : D → List D → Gp → DK → Prop) : Prop := MtR X id (upM X.K r)
theorem mtr_mono {id : String} {r r' : V → List V → Hp → VK → Prop} (h : MtR X id r) (i : ∀ x xs H Q, r' x xs H Q → r x xs H Q) : MtR X id r' := fun pins s σ H x xs v us Q I rx rxs q => h pins s σ H x xs v us Q I rx rxs (i x xs H Q q)
theorem md_of {id : String} {r : D → List D → Gp → DK → Prop} {rv : V → List V → Hp → VK → Prop} (h : MtR X id rv) (i : ∀ c cs G N R x xs H Q, RD X.K H N c x → RDs X.K H N cs xs → RelG X.K H N G → r c cs G R → UpQ X.K H N G R Q → rv x xs H Q) : MtD X id r := mtr_mono h fun x xs H Q h => by
  obtain ⟨c, cs, G, N, R, r0, r1, rg, h, q⟩ := h
  exact i c cs G N R x xs H Q r0 r1 rg h q
/-- the type of what has methods -/
def mty (G : Gp) : D → Option String
  | .str _ => some "str" | .lst _ => some "list"
  | .ref a => match G a with | some (.lst _) => some "list" | some (.dK _) => some "dict" | some (.dT _) => some "dict" | _ => none
  | _ => none
def dM (T : String) (r : D → List D → Gp → DK → Prop) (to : DE) (t : DA) : DE := fun σ G R => to σ G fun x G1 => mty G1 x = some T ∧ t σ G1 fun xs G2 => r x xs G2 R
def dM0 (T : String) (r : D → List D → Gp → DK → Prop) (to : DE) : DE := fun σ G R => to σ G fun x G1 => mty G1 x = some T ∧ r x [] G1 R
theorem tyV_of {K : PySem.W.Frag} {H : Hp} {N : Ns} {G : Gp} {d : D} {v : V} {T : String} (rg : RelG K H N G) (rd : RD K H N d v) (h : mty G d = some T) : tyV K T v H := by
  cases d with
  | str b => cases h; rw [rd.of_str]; rfl
  | lst ds =>
    cases h
    obtain ⟨p, vs, rfl, s, r⟩ := rd.of_lst
    exact .inl ⟨rfl, _, s.sq⟩
  | ref a =>
    obtain rfl := rd.of_ref
    unfold mty at h
    simp only at h
    split at h
    · rename_i ds e
      cases h
      obtain ⟨_, vs, hv, _⟩ := rg a _ e
      exact .inl ⟨rfl, _, SqL.of hv⟩
    · rename_i ds e
      cases h
      obtain ⟨_, vs, hv, _⟩ := rg a _ e
      exact .inr (.inr (.inl ⟨rfl, .inl ⟨_, hv⟩⟩))
    · rename_i ds e
      cases h
      obtain ⟨_, vs, hv, _⟩ := rg a _ e
      exact .inr (.inr (.inl ⟨rfl, .inr ⟨_, hv⟩⟩))
    · cases h
  | _ => cases h
variable {o e : Expr} {es : List Expr} {to : DE} {t : DA} {name : Str} {apos cpos : Pos} {T id : String} {r : D → List D → Gp → DK → Prop}
theorem qe_m (pa : PlainAttrs T) (slot : Slot T name id) (hty : typeOf (.builtin id) = pure (.type "method_descriptor")) (hm : MtD X id r) (ho : QE X o to) (ha : QA X (e :: es) t)
    (hbase : attributeBase o name X.env (eval o X.env) = eval o X.env := by rfl)
    (hfew : ((backTo cpos (starEach (e :: es) X.env)).all (fun x => !x.1) && (backToKw cpos (keywordEach [] X.env)).all (fun x => x.1.isSome)
      && decide ((e :: es).length + ([] : List Keyword).length + (if ([] : List Keyword).isEmpty then 0 else 1) < 30)) = true := by rfl)
    (hline : (apos.endLine == cpos.line) = true := by rfl) (hs : starEach (e :: es) X.env = (false, eval e X.env) :: starEach es X.env := by rfl) (hplain : (backTo cpos (starEach es X.env)).any (·.1) = false := by rfl) :
    QE X (.Call (.Attribute o name apos) (e :: es) [] cpos) (dM T r to t) := pe_mono (pe_bm pa slot hty hm ho ha hbase hfew hline hs hplain) fun τ H Q h => by
  obtain ⟨σ, G, N, R, hs, hg, ht, q⟩ := h
  refine ⟨σ, G, N, _, hs, hg, ht, fun x G1 N1 v1 H1 h1 s1 r1 => ?_⟩
  refine ⟨tyV_of s1.rel r1 h1.1, σ, G1, N1, _, hs.le s1.kp, s1.rel, h1.2, fun xs G2 N2 vs H2 h2 s2 r2 => ?_⟩
  exact ⟨x, xs, G2, N2, R, r1.le s2.kp, r2, s2.rel, h2, q.le (s1.trans s2)⟩
/-- xs.append(y) -/
def dAppend : D → List D → Gp → DK → Prop := fun x xs G R => match x, xs with
  | .ref a, [y] => match G a with | some (.lst ds) => ds.length < sizeLine ∧ R .non (gup G a (.lst (ds ++ [y]))) | _ => False
  | _, _ => False
def strsOf : List D → Option (List Str)
  | [] => some []
  | .str b :: r => match strsOf r with | some bs => some (b :: bs) | none => none
  | _ => none
theorem strsOf_ok : ∀ {ds : List D} {bs : List Str}, strsOf ds = some bs → ds = bs.map D.str
  | [], _, h => by cases h; rfl
  | .str b :: r, _, h => by
    unfold strsOf at h
    split at h
    · rename_i bs e
      cases h
      rw [strsOf_ok e]; rfl
    · cases h
  | .non :: r, _, h => by simp [strsOf] at h
  | .int _ :: r, _, h => by simp [strsOf] at h
  | .bl _ :: r, _, h => by simp [strsOf] at h
  | .ty _ :: r, _, h => by simp [strsOf] at h
  | .ref _ :: r, _, h => by simp [strsOf] at h
  | .any _ :: r, _, h => by simp [strsOf] at h
  | .tup _ :: r, _, h => by simp [strsOf] at h
  | .lst _ :: r, _, h => by simp [strsOf] at h
/-- sep.join(texts) -/
def dJoin : D → List D → Gp → DK → Prop := fun x xs G R => match x, xs with
  | .str a, [y] => match (seqOf G y).bind strsOf with | some ys => (ys.map (·.length)).sum + ys.length * a.length ≤ 16777216 ∧ R (.str (Txt.join a ys)) G | none => False
  | _, _ => False
end
end DL

set_option Elab.async false
set_option linter.all false
set_option maxRecDepth 100000
set_option maxHeartbeats 4000000
set_option autoImplicit false
namespace DL
open PySem PySem.Spec PyProof.Rows L2
/-! ### sets of ints and texts, made of a list or a tuple -/
section
variable {κ : Type} [DecidableEq κ]
/-- each thing once, in the order of coming -/
def uniqStep (acc : List κ) (k : κ) : List κ := if k ∈ acc then acc else acc ++ [k]
def uniq (ks : List κ) : List κ := ks.foldl uniqStep []
end
instance keyLawful : LawfulBEq Key where
  eq_of_beq := fun {a b} h => by
    cases a with
    | inl i => cases b with
      | inl j => exact congrArg Sum.inl (eq_of_beq (show (i == j) = true from h))
      | inr j => exact absurd (show false = true from h) Bool.false_ne_true
    | inr i => cases b with
      | inl j => exact absurd (show false = true from h) Bool.false_ne_true
      | inr j => exact congrArg Sum.inr (eq_of_beq (show (i == j) = true from h))
  rfl := fun {a} => by
    cases a with
    | inl i => exact beq_self_eq_true i
    | inr i => exact beq_self_eq_true i
/-- values that are these keys -/
def KeysAre (us : List Value) (ks : List Key) : Prop := Paired (fun (k : Key) (u : Value) => keyIs k u = true) ks us
theorem KeysAre.len {us : List Value} {ks : List Key} (h : KeysAre us ks) : us.length = ks.length := (Paired.length h).symm
theorem KeysAre.get : ∀ {us : List Value} {ks : List Key} {i : Nat} {v : Value}, KeysAre us ks → us[i]? = some v → ∃ k, ks[i]? = some k ∧ keyIs k v = true
  | _, _, _, _, .nil, e => by simp at e
  | _, _, 0, _, .cons r _, e => by simp at e; subst e; exact ⟨_, rfl, r⟩
  | _, _, i + 1, v, .cons _ t, e => by
    obtain ⟨k, h1, h2⟩ := KeysAre.get (i := i) (v := v) t (by simpa using e)
    exact ⟨k, by simpa using h1, h2⟩
section
variable {prog : Program} {w : World} {A : Around} {R : Result → Shared → Prop} {I : Addr} {fp wr : List Addr} {G : Array GenState → Array GenState → Prop} {n : Nat} {P : Nat → Value → Prop} {St : Nat → Shared → Prop}
end
section
variable {prog : Program} {w : World} {A : Around} {E : Value → Shared → Prop} {s : Shared}
end
end DL

set_option Elab.async false
set_option linter.all false
set_option maxRecDepth 100000
set_option maxHeartbeats 4000000
set_option autoImplicit false
namespace DL
open PySem PySem.Spec PyProof.Rows L2
/-! ### len(set(xs)) -/
def keyD : D → Option Key
  | .int i => some (.inl i) | .str x => some (.inr x) | _ => none
def keysD : List D → Option (List Key)
  | [] => some []
  | d :: ds => match keyD d, keysD ds with | some k, some ks => some (k :: ks) | _, _ => none
section
variable {X : Cx}
def dLenSet (te : DE) : DE := fun σ G R => te σ G fun x G1 => match (seqOf G1 x).bind keysD with | some ks => ks.length + 1 < scanBound ∧ R (.int (uniq ks).length) G1 | none => False
/-! ### what is walked -/
def iSeq (K : PySem.W.Frag) (tl : TE) : TI := fun σ H R => tl σ H fun x H1 => (∃ a, x = .ref a ∧ (∃ xs, SqL K H1 a xs) ∧ R (Itl K a) H1) ∨ (∃ a, x = .ref a ∧ (∃ xs, SqT K H1 a xs) ∧ R (Itt K a) H1) ∨ ∃ z, x = .str z ∧ R (Its z) H1
theorem pi_seq {tg l : Expr} {tl : TE} (hl : PE X l tl) : PI X tg l (iSeq X.K tl) := by
  refine ⟨fun pins s σ H R I h => thn (hl.run pins s σ H _ I h) fun v s1 ⟨x, H1, I1, r1, q1⟩ => ?_⟩
  rcases q1 with ⟨a, e, ⟨xs, hq⟩, q⟩ | ⟨a, e, ⟨xs, hq⟩, q⟩ | ⟨z, e, q⟩
  · subst e
    have hp : PE X l (fun _ _ Q => True) → True := fun _ => True.intro
    cases r1
    obtain ⟨its, rv, p, hz⟩ := I1.list hq
    exact wpAny_pyIter_list p.isList (pi_one (tk := s1.toks) I1 _ (turn_list a _) ⟨_, Heap.get?_push_size _ rfl, rfl, rfl⟩ q)
  · subst e
    cases r1
    obtain ⟨its, rv, p, hz⟩ := I1.tuple hq
    exact wpAny_pyIter_tuple (show s1.heap.IsTuple a its.toArray from p) (pi_one (tk := s1.toks) I1 _ (turn_tuple a _) ⟨_, Heap.get?_push_size _ rfl, rfl, rfl⟩ q)
  · subst e
    obtain ⟨t, rfl⟩ := r1
    cases ha : z.cps.all (· < 128)
    · exact wpAny_pyIter_wide ha (pi_one (tk := s1.toks) I1 _ (turn_str _ z t "str_iterator" (.inr rfl)) ⟨_, Heap.get?_push_size _ rfl, rfl, rfl⟩ q)
    · exact wpAny_pyIter_ascii ha (pi_one (tk := s1.toks) I1 _ (turn_str _ z t "str_ascii_iterator" (.inl rfl)) ⟨_, Heap.get?_push_size _ rfl, rfl, rfl⟩ q)
/-- a text's signsD -/
def signsD (z : Str) : List D := z.cps.toList.map fun c => .str ⟨#[c]⟩
def dIter (te : DE) : DI := fun σ G R => te σ G fun x G1 => match x with
  | .tup ds => R ds (fun _ => True) G1
  | .nt zs => R (zs.map .str) (fun _ => True) G1
  | .lst ds => R ds (fun _ => True) G1
  | .str z => R (signsD z) (fun _ => True) G1
  | .ref a => match G1 a with | some (.lst ds) => R ds (fun G => G a = some (.lst ds)) G1 | _ => False
  | _ => False
theorem yl_list {K : PySem.W.Frag} {H0 : Hp} {N0 : Ns} {G0 : Gp} {a : Addr} {ds : List D} {gd : Gp → Prop} (h : ∀ H N G, Stp K H0 N0 G0 H N G → gd G → ∃ vs, SqL K H a vs ∧ RDs K H N ds vs) : Yl K (Itl K a) H0 N0 G0 ds gd := by
  refine Yl.of (fun i H N G d s g e => ?_) (fun i H N G s g e => ?_)
  · obtain ⟨vs, sq, r⟩ := h H N G s g
    obtain ⟨v, hv, rv⟩ := r.get e
    refine ⟨⟨vs, v, sq, hv⟩, fun x H' y => ?_⟩
    obtain ⟨rfl, y⟩ := y
    have e2 := y vs sq
    rw [hv] at e2; cases e2
    exact ⟨Stp.refl s.rel, rv⟩
  · obtain ⟨vs, sq, r⟩ := h H N G s g
    exact ⟨vs, sq, by rw [← r.length]; exact e⟩
theorem yl_tup {K : PySem.W.Frag} {H0 : Hp} {N0 : Ns} {G0 : Gp} {a : Addr} {ds : List D} {vs : List V} (sq : SqT K H0 a vs) (r : RDs K H0 N0 ds vs) : Yl K (Itt K a) H0 N0 G0 ds fun _ => True := by
  refine Yl.of (fun i H N G d s g e => ?_) (fun i H N G s g e => ?_)
  · obtain ⟨v, hv, rv⟩ := (r.le s.kp).get e
    have sq' := SqT.le s.kp.kle sq
    refine ⟨⟨vs, v, sq', hv⟩, fun x H' y => ?_⟩
    obtain ⟨rfl, y⟩ := y
    have e2 := y vs sq'
    rw [hv] at e2; cases e2
    exact ⟨Stp.refl s.rel, rv⟩
  · exact ⟨vs, SqT.le s.kp.kle sq, by rw [← r.length]; exact e⟩
theorem yl_str {K : PySem.W.Frag} {H0 : Hp} {N0 : Ns} {G0 : Gp} {z : Str} : Yl K (Its z) H0 N0 G0 (signsD z) fun _ => True := by
  refine Yl.of (fun i H N G d s g e => ?_) (fun i H N G s g e => ?_)
  · unfold signsD at e
    rw [List.getElem?_map] at e
    cases ec : z.cps.toList[i]? with
    | none => rw [ec] at e; cases e
    | some c =>
      rw [ec] at e
      cases e
      have ec' : z.cps[i]? = some c := by rw [← Array.getElem?_toList]; exact ec
      refine ⟨(Array.getElem?_eq_some_iff.mp ec').1, fun x H' y => ?_⟩
      obtain ⟨rfl, c', e', rfl⟩ := y
      rw [ec'] at e'; cases e'
      exact ⟨Stp.refl s.rel, RD.str _⟩
  · unfold signsD at e
    rw [List.length_map, Array.length_toList] at e
    exact e
theorem qi_seq {tg l : Expr} {te : DE} (hl : QE X l te) : QI X tg l (dIter te) := pi_mono (pi_seq hl) fun τ H Q h => by
  obtain ⟨σ, G, N, R, hs, hg, ht, q⟩ := h
  refine ⟨σ, G, N, _, hs, hg, ht, fun x G1 N1 v1 H1 h1 s1 r1 => ?_⟩
  split at h1
  · obtain ⟨p, vs, rfl, sq, r⟩ := r1.of_tup
    exact .inr (.inl ⟨p, rfl, ⟨vs, sq⟩, q _ _ _ _ _ _ h1 s1 (yl_tup sq r)⟩)
  · obtain ⟨p, vs, rfl, sq, r⟩ := r1.nt_tup.of_tup
    exact .inr (.inl ⟨p, rfl, ⟨vs, sq⟩, q _ _ _ _ _ _ h1 s1 (yl_tup sq r)⟩)
  · obtain ⟨p, vs, rfl, sq, r⟩ := r1.of_lst
    exact .inl ⟨p, rfl, ⟨vs, sq.sq⟩, q _ _ _ _ _ _ h1 s1 (yl_list fun H N G s _ => ⟨vs, (sq.le s.kp).sq, r.le s.kp⟩)⟩
  · obtain rfl := r1.of_str
    exact .inr (.inr ⟨_, rfl, q _ _ _ _ _ _ h1 s1 yl_str⟩)
  · obtain rfl := r1.of_ref
    split at h1
    · rename_i ds e
      obtain ⟨_, vs, hv, r⟩ := s1.rel _ _ e
      exact .inl ⟨_, rfl, ⟨vs, SqL.of hv⟩, q _ _ _ _ _ _ h1 s1 (yl_list fun H N G s g => by
        obtain ⟨_, vs, hv, r⟩ := s.rel _ _ g
        exact ⟨vs, SqL.of hv, r⟩)⟩
    · exact h1.elim
  · exact h1.elim
/-- range(n) -/
def rng (lo : Int) (n : Nat) : List D := (List.range n).map fun i => .int (lo + (i : Nat))
theorem rng_length (lo : Int) (n : Nat) : (rng lo n).length = n := by unfold rng; rw [List.length_map, List.length_range]
theorem yl_rng {K : PySem.W.Frag} {H0 : Hp} {N0 : Ns} {G0 : Gp} {lo : Int} {n : Nat} : Yl K (Itr lo n) H0 N0 G0 (rng lo n) fun _ => True := by
  refine Yl.of (fun i H N G d s g e => ?_) (fun i H N G s g e => ?_)
  · have hi : i < n := by
      have := (List.getElem?_eq_some_iff.mp e).1
      rwa [rng_length] at this
    unfold rng at e
    rw [List.getElem?_map, List.getElem?_range hi] at e
    cases e
    refine ⟨hi, fun x H' y => ?_⟩
    obtain ⟨rfl, rfl⟩ := y
    exact ⟨Stp.refl s.rel, RD.int _⟩
  · rw [rng_length] at e; exact e
def dRng1 (ta : DA) : DI := fun σ G R => ta σ G fun ds G1 => match ds with | [.int j] => -(2 ^ 62) ≤ j ∧ j < 2 ^ 62 ∧ R (rng 0 j.toNat) (fun _ => True) G1 | _ => False
theorem qi_range1 {tg a : Expr} {ta : DA} {p pos : Pos} (hg : Gl X "range") (hm : X.mg "range" = none) (ha : QA X [a] ta) (hs : starEach [a] X.env = [(false, eval a X.env)] := by rfl) : QI X tg (.Call (.Name "range" p) [a] [] pos) (dRng1 ta) := pi_mono (pi_range1 hg hm ha hs) fun τ H Q h => by
  obtain ⟨σ, G, N, R, hs, hg, ht, q⟩ := h
  refine ⟨σ, G, N, _, hs, hg, ht, fun ds G1 N1 vs H1 h1 s1 r1 => ?_⟩
  split at h1
  · rename_i j
    obtain ⟨v, r, rfl, r2, r3⟩ := r1.of_cons
    rw [r3.of_nil, r2.of_int]
    exact ⟨j, rfl, h1.1, h1.2.1, q _ _ _ _ _ _ h1.2.2 s1 yl_rng⟩
  · exact h1.elim
/-- enumerate(list) -/
def enumD (lo : Int) : List D → List D
  | [] => []
  | d :: ds => .tup [.int lo, d] :: enumD (lo + 1) ds
def dEnum (ta : DA) : DI := fun σ G R => ta σ G fun ds G1 => match ds with
  | [.lst xs] => R (enumD 0 xs) (fun _ => True) G1
  | [.ref a] => (match G1 a with | some (.lst xs) => R (enumD 0 xs) (fun G => G a = some (.lst xs)) G1 | _ => False)
  | _ => False
/-! ### f(k = v, ..) -/
variable {k : Nat} {f : Addr} {fd : FuncData} {ps ks : List Str} {sp : DSp} {x : Str} {p pos : Pos} {kws : List Keyword} {tk : DA}
/-- by names alone: the promise is asked at the values in the parameters' order (g) -/
def dCallK (sp : DSp) (g : List D → List D) (n : Nat) (tk : DA) : DE := fun σ G R => tk σ G fun ds G1 => ds.length = n ∧ sp (g ds) G1 R
end
end DL

set_option Elab.async false
set_option linter.all false
set_option maxRecDepth 100000
set_option maxHeartbeats 4000000
set_option autoImplicit false
namespace DL
open PySem PySem.Spec PyProof.Rows L2
section
variable {X : Cx}
theorem qe_globI {x : Str} {i : Int} {pos : Pos} (hg : Gl X x) (hm : ∃ t, X.mg x = some (.int i t)) (hd : (x == ("__debug__" : Str)) = false := by decide) : QE X (.Name x pos) (dC (.int i)) := by
  obtain ⟨t, h⟩ := hm
  exact qe_glob (v := .int i) hg h ⟨t, rfl⟩ (fun _ _ => RD.int i) hd
end
end DL

set_option Elab.async false
set_option linter.all false
set_option maxRecDepth 100000
set_option maxHeartbeats 4000000
set_option autoImplicit false
namespace DL
open PySem PySem.Spec PyProof.Rows L2
/-! ### readings -/
theorem at_K {K : PySem.W.Frag} {h : Heap} (_ : K.In h) (Q : PySem.W.Frag → Prop) (q : Q K) : Q K := q
theorem ret_same {R : DK} {d : D} {G : Gp} (h : R d G) : ∃ d' G', Wk G d d' G' ∧ R d' G' := ⟨d, G, .same (Sub.refl G), h⟩
theorem ret_sub {R : DK} {d : D} {G G0 : Gp} (s : Sub G0 G) (h : R d G0) : ∃ d' G', Wk G d d' G' ∧ R d' G' := ⟨d, G0, .same s, h⟩
theorem ret_lst {R : DK} {p : Addr} {ds : List D} {G G0 : Gp} (e : G p = some (.lst ds)) (s : Sub G0 G) (n : G0 p = none) (h : R (.lst ds) G0) : ∃ d' G', Wk G (.ref p) d' G' ∧ R d' G' := ⟨_, G0, .lst e s n, h⟩
theorem fnd_never {P : Program} {w : World} {K : PySem.W.Frag} {mg : Str → Option Value} {base : Heap} {k : Nat} {f : Addr} {fd : FuncData} {ps : List Str} : FnD P w K mg base k f fd ps (fun _ _ _ => False) :=
  ⟨fun vs H Q E h => by obtain ⟨_, _, _, _, _, _, h, _⟩ := h; exact h.elim, fun A outer s H args us vs Q E _ _ _ _ h => by obtain ⟨_, _, _, _, _, _, h, _⟩ := h; exact h.elim⟩
theorem gup_comm {G : Gp} {a b : Addr} {o u : GO} (h : a ≠ b) : gup (gup G a o) b u = gup (gup G b u) a o := by
  funext c; unfold gup
  by_cases e1 : c = b
  · by_cases e2 : c = a
    · exact absurd (e2.symm.trans e1) h
    · rw [if_pos e1, if_neg e2, if_pos e1]
  · by_cases e2 : c = a
    · rw [if_neg e1, if_pos e2, if_pos e2]
    · rw [if_neg e1, if_neg e2, if_neg e2, if_neg e1]
/-! ### plain data -/
def isStr : D → Bool | .str _ => true | _ => false
/-! ### == of data -/
mutual
def pyD : D → Bool
  | .non => true | .bl _ => true | .int _ => true | .str z => z.cps.toList.all fun c => decide (c < 1114112)
  | .tup ds => pyDs ds
  | .lst ds => pyDs ds
  | _ => false
def pyDs : List D → Bool
  | [] => true
  | d :: ds => pyD d && pyDs ds
end
mutual
def depD : D → Nat
  | .tup ds => depDs ds + 1
  | .lst ds => depDs ds + 1
  | _ => 0
def depDs : List D → Nat
  | [] => 0
  | d :: ds => max (depD d) (depDs ds)
end
mutual
def eqD : D → D → Bool
  | .non, .non => true
  | .bl a, .bl b => a == b
  | .bl a, .int j => (if a then 1 else 0) == j
  | .int i, .bl b => i == (if b then 1 else 0)
  | .int i, .int j => i == j
  | .str x, .str y => x == y
  | .tup xs, .tup ys => eqDs xs ys
  | .lst xs, .lst ys => eqDs xs ys
  | _, _ => false
def eqDs : List D → List D → Bool
  | [], [] => true
  | x :: xs, y :: ys => eqD x y && eqDs xs ys
  | _, _ => false
end
mutual
theorem toPy_pure : ∀ {d : D}, pyD d = true → ∃ a, toPy d = some a ∧ a.canLay0 = true ∧ a.depth = depD d
  | .non, _ => ⟨.none, by simp only [toPy], by simp [PyData.canLay0], by simp [PyData.depth, depD]⟩
  | .bl b, _ => ⟨.bool b, by simp only [toPy], by simp [PyData.canLay0], by simp [PyData.depth, depD]⟩
  | .int i, _ => ⟨.int i, by simp only [toPy], by simp [PyData.canLay0], by simp [PyData.depth, depD]⟩
  | .str z, h => ⟨.str z, by simp only [toPy], by
      simp only [pyD] at h
      simp only [PyData.canLay0, PyData.strOk]
      rw [← Array.all_toList]
      exact h, by simp [PyData.depth, depD]⟩
  | .tup ds, h => by
    simp only [pyD] at h
    obtain ⟨as, h1, h2, h3⟩ := toPys_pure h
    exact ⟨.tuple as, by simp only [toPy, h1, Option.map_some], by simpa [PyData.canLay0] using h2, by simp only [PyData.depth, depD, h3]⟩
  | .lst ds, h => by
    simp only [pyD] at h
    obtain ⟨as, h1, h2, h3⟩ := toPys_pure h
    exact ⟨.list as, by simp only [toPy, h1, Option.map_some], by simpa [PyData.canLay0] using h2, by simp only [PyData.depth, depD, h3]⟩
  | .ty _, h => by simp [pyD] at h
  | .ref _, h => by simp [pyD] at h
  | .any _, h => by simp [pyD] at h
theorem toPys_pure : ∀ {ds : List D}, pyDs ds = true → ∃ as, toPys ds = some as ∧ PyData.canLayAll0 as = true ∧ PyData.depthAll as = depDs ds
  | [], _ => ⟨[], by simp only [toPys], by simp [PyData.canLayAll0], by simp [PyData.depthAll, depDs]⟩
  | d :: ds, h => by
    simp only [pyDs, Bool.and_eq_true] at h
    obtain ⟨a, h1, h2, h3⟩ := toPy_pure h.1
    obtain ⟨as, h4, h5, h6⟩ := toPys_pure h.2
    exact ⟨a :: as, by simp only [toPys, h1, h4], by simp [PyData.canLayAll0, h2, h5], by simp only [PyData.depthAll, depDs, h3, h6]⟩
end
def ShapeOf (c : D) (a : PyData) : Prop := match c with
  | .non => a = .none | .bl b => a = .bool b | .int i => a = .int i | .str z => a = .str z
  | .tup ds => ∃ as, a = .tuple as ∧ toPys ds = some as
  | .lst ds => ∃ as, a = .list as ∧ toPys ds = some as
  | _ => False
theorem toPy_shape {c : D} {a : PyData} (h : toPy c = some a) : ShapeOf c a := by
  cases c with
  | tup ds =>
    simp only [toPy] at h
    cases e1 : toPys ds with
    | none => rw [e1] at h; cases h
    | some as => rw [e1] at h; cases h; exact ⟨as, rfl, e1⟩
  | lst ds =>
    simp only [toPy] at h
    cases e1 : toPys ds with
    | none => rw [e1] at h; cases h
    | some as => rw [e1] at h; cases h; exact ⟨as, rfl, e1⟩
  | _ => simp only [toPy] at h <;> first | (cases h; done) | (cases h; rfl)
mutual
theorem eqv_eqD : ∀ {c d : D} {a b : PyData}, toPy c = some a → toPy d = some b → PyData.eqv a b = eqD c d
  | .tup xs, .tup ys, a, b, h1, h2 => by
    obtain ⟨as, rfl, e1⟩ := toPy_shape h1
    obtain ⟨bs, rfl, e2⟩ := toPy_shape h2
    simp only [PyData.eqv, eqD]
    exact eqv_eqDs e1 e2
  | .lst xs, .lst ys, a, b, h1, h2 => by
    obtain ⟨as, rfl, e1⟩ := toPy_shape h1
    obtain ⟨bs, rfl, e2⟩ := toPy_shape h2
    simp only [PyData.eqv, eqD]
    exact eqv_eqDs e1 e2
  | .tup xs, .lst ys, a, b, h1, h2 => by
    obtain ⟨as, rfl, e1⟩ := toPy_shape h1
    obtain ⟨bs, rfl, e2⟩ := toPy_shape h2
    simp only [PyData.eqv, eqD]
  | .lst xs, .tup ys, a, b, h1, h2 => by
    obtain ⟨as, rfl, e1⟩ := toPy_shape h1
    obtain ⟨bs, rfl, e2⟩ := toPy_shape h2
    simp only [PyData.eqv, eqD]
  | .tup xs, .non, a, b, h1, h2 | .tup xs, .bl _, a, b, h1, h2 | .tup xs, .int _, a, b, h1, h2 | .tup xs, .str _, a, b, h1, h2
  | .lst xs, .non, a, b, h1, h2 | .lst xs, .bl _, a, b, h1, h2 | .lst xs, .int _, a, b, h1, h2 | .lst xs, .str _, a, b, h1, h2 => by
    obtain ⟨as, rfl, e1⟩ := toPy_shape h1
    have s2 := toPy_shape h2
    simp only [ShapeOf] at s2
    subst s2
    simp only [PyData.eqv, eqD]
  | .non, .tup ys, a, b, h1, h2 | .bl _, .tup ys, a, b, h1, h2 | .int _, .tup ys, a, b, h1, h2 | .str _, .tup ys, a, b, h1, h2
  | .non, .lst ys, a, b, h1, h2 | .bl _, .lst ys, a, b, h1, h2 | .int _, .lst ys, a, b, h1, h2 | .str _, .lst ys, a, b, h1, h2 => by
    obtain ⟨bs, rfl, e1⟩ := toPy_shape h2
    have s1 := toPy_shape h1
    simp only [ShapeOf] at s1
    subst s1
    simp only [PyData.eqv, eqD]
  | .ty _, _, a, b, h1, h2 | .ref _, _, a, b, h1, h2 | .any _, _, a, b, h1, h2 => (toPy_shape h1).elim
  | _, .ty _, a, b, h1, h2 | _, .ref _, a, b, h1, h2 | _, .any _, a, b, h1, h2 => (toPy_shape h2).elim
  | .non, .non, a, b, h1, h2 | .non, .bl _, a, b, h1, h2 | .non, .int _, a, b, h1, h2 | .non, .str _, a, b, h1, h2
  | .bl _, .non, a, b, h1, h2 | .bl _, .bl _, a, b, h1, h2 | .bl _, .int _, a, b, h1, h2 | .bl _, .str _, a, b, h1, h2
  | .int _, .non, a, b, h1, h2 | .int _, .bl _, a, b, h1, h2 | .int _, .int _, a, b, h1, h2 | .int _, .str _, a, b, h1, h2
  | .str _, .non, a, b, h1, h2 | .str _, .bl _, a, b, h1, h2 | .str _, .int _, a, b, h1, h2 | .str _, .str _, a, b, h1, h2 => by
    have s1 := toPy_shape h1
    have s2 := toPy_shape h2
    simp only [ShapeOf] at s1 s2
    subst s1 s2
    simp only [PyData.eqv, eqD]
theorem eqv_eqDs : ∀ {cs ds : List D} {as bs : List PyData}, toPys cs = some as → toPys ds = some bs → PyData.eqvAll as bs = eqDs cs ds
  | [], [], _, _, h1, h2 => by simp only [toPys] at h1 h2; cases h1; cases h2; simp only [PyData.eqvAll, eqDs]
  | [], d :: ds, _, _, h1, h2 => by
    simp only [toPys] at h1 h2
    split at h2
    · cases h1; cases h2; simp only [PyData.eqvAll, eqDs]
    · cases h2
  | c :: cs, [], _, _, h1, h2 => by
    simp only [toPys] at h1 h2
    split at h1
    · cases h1; cases h2; simp only [PyData.eqvAll, eqDs]
    · cases h1
  | c :: cs, d :: ds, _, _, h1, h2 => by
    simp only [toPys] at h1 h2
    split at h1
    · split at h2
      · rename_i a as e1 e2 _ _ b bs e3 e4
        cases h1; cases h2
        simp only [PyData.eqvAll, eqDs, eqv_eqD e1 e3, eqv_eqDs e2 e4]
      · cases h2
    · cases h1
end
theorem gPy_pure {G : Gp} {d : D} (h : pyD d = true) : gPy G d = toPy d := by
  cases d with
  | ref a => simp [pyD] at h
  | _ => rfl
theorem eqD_scal_int (i j : Int) : eqD (.int i) (.int j) = decide (i = j) := by simp only [eqD]; rw [Bool.eq_iff_iff]; simp
theorem eqD_scal_str (i j : Str) : eqD (.str i) (.str j) = decide (i = j) := by simp only [eqD]; rw [Bool.eq_iff_iff]; simp
theorem eqD_scal_bl (i j : Bool) : eqD (.bl i) (.bl j) = decide (i = j) := by simp only [eqD]; rw [Bool.eq_iff_iff]; simp
theorem eqW_pure {f : Bool → Bool} {c d : D} {G : Gp} {R : DK} (hc : pyD c = true) (hd : pyD d = true) (lc : depD c ≤ 64) (ld : depD d ≤ 64) : dEqW f c d G R ↔ R (.bl (f (eqD c d))) G := by
  unfold dEqW
  split
  · rw [eqD_scal_int]
  · rw [eqD_scal_str]
  · rw [eqD_scal_bl]
  · simp only [eqD]
  · obtain ⟨a, h1, h2, h3⟩ := toPy_pure hc
    obtain ⟨b, h4, h5, h6⟩ := toPy_pure hd
    rw [gPy_pure hc, gPy_pure hd, h1, h4]
    simp only [eqv_eqD h1 h4]
    have s1 : SeqAt.shaped a = true := by unfold SeqAt.shaped; rw [h2, h3, decide_eq_true lc]; rfl
    have s2 : SeqAt.shaped b = true := by unfold SeqAt.shaped; rw [h5, h6, decide_eq_true ld]; rfl
    exact ⟨fun z => z.2.2, fun z => ⟨s1, s2, z⟩⟩
theorem eq_pure {c d : D} {G : Gp} {R : DK} (hc : pyD c = true) (hd : pyD d = true) (lc : depD c ≤ 64) (ld : depD d ≤ 64) : dEq c d G R ↔ R (.bl (eqD c d)) G := eqW_pure hc hd lc ld
theorem ne_pure {c d : D} {G : Gp} {R : DK} (hc : pyD c = true) (hd : pyD d = true) (lc : depD c ≤ 64) (ld : depD d ≤ 64) : dNe c d G R ↔ R (.bl (!eqD c d)) G := eqW_pure hc hd lc ld
theorem small_line {n : Nat} (h : n ≤ 1000) : n ≤ sizeLine := Nat.le_of_lt (small1000 h)
theorem len_tup {ds : List D} {G : Gp} {R : DK} : dLen [.tup ds] G R ↔ R (.int ds.length) G := by unfold dLen; simp only [seqOf]
theorem len_lst {ds : List D} {G : Gp} {R : DK} : dLen [.lst ds] G R ↔ R (.int ds.length) G := by unfold dLen; simp only [seqOf, lstOf]
theorem len_ref {p : Addr} {ds : List D} {G : Gp} {R : DK} (e : G p = some (.lst ds)) : dLen [.ref p] G R ↔ R (.int ds.length) G := by unfold dLen; simp only [seqOf, lstOf, e]
theorem all_lst {bs : List Bool} {G : Gp} {R : DK} : dAll [.lst (bs.map D.bl)] G R ↔ R (.bl (bs.all id)) G := by
  unfold dAll
  simp only [lstOf, Option.bind_some, blsOf_map]
/-! ### cuts and loops -/
theorem seq_cut {t u : DS} {E : DEnds} {σ : Sd} {G : Gp} (M : Sd → Gp → Prop) (h1 : ∀ σ' G', M σ' G' → u E σ' G') (h2 : ∀ N : Sd → Gp → Prop, (∀ σ' G', M σ' G' → N σ' G') → t { E with nx := N } σ G) : dSeq t u E σ G := h2 (u E) h1
theorem for_go {g : DG} {tb : DS} {gd : Gp → Prop} {E : DEnds} (I : List D → Sd → Gp → Prop)
    (turn : ∀ x xs σ G, I (x :: xs) σ G → gd G ∧ ∀ N : Sd → Gp → Prop, (∀ σ' G', I xs σ' G' → N σ' G') → g x σ G fun σ2 G2 => tb { E with nx := N, ct := N, bk := E.nx } σ2 G2)
    (fin : ∀ σ G, I [] σ G → gd G ∧ E.nx σ G) : ∀ (xs : List D) (σ : Sd) (G : Gp), I xs σ G → dForGo g tb gd E xs σ G
  | [], σ, G, h => fin σ G h
  | x :: xs, σ, G, h => ⟨(turn x xs σ G h).1, (turn x xs σ G h).2 _ fun σ' G' i => for_go I turn fin xs σ' G' i⟩
theorem wh_go {c : DT} {tb : DS} {E : DEnds} (I : Nat → Sd → Gp → Prop)
    (turn : ∀ n σ G, I n σ G → ∀ N : Sd → Gp → Prop, (∀ k σ' G', n = k + 1 → I k σ' G' → N σ' G') → c σ G fun b G1 => match b with | true => tb { E with nx := N, ct := N, bk := E.nx } σ G1 | false => E.nx σ G1) :
    ∀ (n : Nat) (σ : Sd) (G : Gp), I n σ G → dWhN c tb E (n + 1) σ G
  | 0, σ, G, h => turn 0 σ G h _ fun k _ _ e => by omega
  | n + 1, σ, G, h => turn (n + 1) σ G h _ fun k σ' G' e i => by
    have : k = n := by omega
    subst this
    exact wh_go I turn k σ' G' i
/-- a comprehension by an invariant -/
theorem lc_go {g : DG} {tt : DT} {te : DE} {gd : Gp → Prop} {σ : Sd} {Q : List D → Gp → Prop} (I : List D → List D → Gp → Prop)
    (turn : ∀ x xs acc G, I (x :: xs) acc G → gd G ∧ ∀ N : List D → Gp → Prop, (∀ acc' G', I xs acc' G' → N acc' G') → g x σ G fun σ2 G2 => tt σ2 G2 fun b G3 => match b with | true => te σ2 G3 fun y G4 => N (acc ++ [y]) G4 | false => N acc G3)
    (fin : ∀ acc G, I [] acc G → gd G ∧ Q acc G) : ∀ (xs acc : List D) (G : Gp), I xs acc G → dLcGo g tt te gd σ xs acc G Q
  | [], acc, G, h => fin acc G h
  | x :: xs, acc, G, h => ⟨(turn x xs acc G h).1, (turn x xs acc G h).2 _ fun acc' G' i => lc_go I turn fin xs acc' G' i⟩
/-! ### texts by their signs' numbers -/
abbrev cds (z : Str) : List Nat := z.cps.toList
theorem cds_len (z : Str) : (cds z).length = z.length := Array.length_toList
theorem cds_app (a b : Str) : cds (a ++ b) = cds a ++ cds b := by show (a.cps ++ b.cps).toList = _; simp
/-! ### operators at what is known -/
section
variable {mk : Bool} {i j : Int} {a b : Str} {x y : Bool} {as bs : List D} {d : D} {G : Gp} {R : DK}
theorem dAdd_ii : dAdd mk (.int i) (.int j) G R = R (.int (i + j)) G := rfl
theorem dAdd_ss : dAdd mk (.str a) (.str b) G R = (a.length + b.length ≤ sizeLine ∧ R (.str (a ++ b)) G) := rfl
theorem dAdd_tt : dAdd mk (.tup as) (.tup bs) G R = (as.length + bs.length ≤ sizeLine ∧ R (.tup (as ++ bs)) G) := rfl
theorem dAdd_ll : dAdd mk (.lst as) (.lst bs) G R = (as.length + bs.length ≤ sizeLine ∧ newL mk (as ++ bs) G R) := rfl
theorem dMinus_ii : dMinus (.int i) (.int j) G R = R (.int (i - j)) G := rfl
theorem dMul_ii : dMul (.int i) (.int j) G R = (IntMulOk i j ∧ R (.int (i * j)) G) := rfl
theorem dMod_ii : dMod (.int i) (.int j) G R = (0 < j ∧ R (.int (i % j)) G) := rfl
theorem dFdiv_ii : dFdiv (.int i) (.int j) G R = (CDivW i j ∧ R (.int (i / j)) G) := rfl
theorem dPow_ii : dPow (.int i) (.int j) G R = (CPowX i j ∧ R (.int (i ^ j.toNat)) G) := rfl
theorem dShl_ii : dShl (.int i) (.int j) G R = (CShl i j ∧ R (.int (i * 2 ^ j.toNat)) G) := rfl
theorem dNeg_i : dNeg (.int i) G R = R (.int (-i)) G := rfl
theorem dIadd_ii : dIadd (.int i) (.int j) G R = R (.int (i + j)) G := rfl
theorem dLt_ii : dLt (.int i) (.int j) G R = R (.bl (decide (i < j))) G := rfl
theorem dLe_ii : dLe (.int i) (.int j) G R = R (.bl (decide (i ≤ j))) G := rfl
theorem dGt_ii : dGt (.int i) (.int j) G R = R (.bl (decide (j < i))) G := rfl
theorem dGe_ii : dGe (.int i) (.int j) G R = R (.bl (decide (j ≤ i))) G := rfl
theorem dEq_ii : dEq (.int i) (.int j) G R = R (.bl (decide (i = j))) G := rfl
theorem dNe_ii : dNe (.int i) (.int j) G R = R (.bl (!decide (i = j))) G := rfl
theorem dEq_ss : dEq (.str a) (.str b) G R = R (.bl (decide (a = b))) G := rfl
theorem dNe_ss : dNe (.str a) (.str b) G R = R (.bl (!decide (a = b))) G := rfl
theorem dEq_bb : dEq (.bl x) (.bl y) G R = R (.bl (decide (x = y))) G := rfl
theorem dNe_bb : dNe (.bl x) (.bl y) G R = R (.bl (!decide (x = y))) G := rfl
theorem dIs_n : dIs d .non G R = R (.bl (isNon d)) G := rfl
theorem dIsNot_n : dIsNot d .non G R = R (.bl (!isNon d)) G := rfl
theorem dMax2_ii : dMax2 [.int i, .int j] G R = R (.int (if j > i then j else i)) G := rfl
theorem dMin2_ii : dMin2 [.int i, .int j] G R = R (.int (if j < i then j else i)) G := rfl
theorem dTuple_t : dTuple [.tup as] G R = R (.tup as) G := rfl
theorem dTuple_l : dTuple [.lst as] G R = R (.tup as) G := rfl
theorem dList_t : dList mk [.tup as] G R = newL mk as G R := rfl
theorem dList_l : dList mk [.lst as] G R = newL mk as G R := rfl
theorem dIx_t : dIx (.tup as) (.int i) G R = (match atI as i with | some d => R d G | none => False) := rfl
theorem dIx_l : dIx (.lst as) (.int i) G R = (match atI as i with | some d => R d G | none => False) := rfl
theorem dIx_s : dIx (.str a) (.int i) G R = (a.length ≤ sizeLine ∧ (match atI a.cps.toList i with | some c => R (.str ⟨#[c]⟩) G | none => False)) := rfl
theorem dSl_t {lo hi : Option Int} : dSl mk (.tup as) lo hi G R = R (.tup (cutL as lo hi)) G := rfl
theorem dSl_l {lo hi : Option Int} : dSl mk (.lst as) lo hi G R = newL mk (cutL as lo hi) G R := rfl
theorem dSl_s {lo hi : Option Int} : dSl mk (.str a) lo hi G R = (a.length ≤ sizeLine ∧ R (.str (cutS a lo hi)) G) := rfl
theorem newL_f : newL false as G R = R (.lst as) G := rfl
end
end DL

set_option Elab.async false
set_option linter.all false
set_option maxRecDepth 100000
set_option maxHeartbeats 4000000
set_option autoImplicit false
namespace DL
open PySem PySem.Spec PyProof.Rows L2
/-! ### a block within a block -/
/-! ### names in another order -/
def permL {α : Type} (js : List Nat) (l : List α) : List α := js.filterMap fun i => l[i]?
/-! ### zip -/
def zipD : List D → List D → List D
  | x :: xs, y :: ys => .tup [x, y] :: zipD xs ys
  | _, _ => []
theorem zipD_get : ∀ (xs ys : List D) (i : Nat), (zipD xs ys)[i]? = match xs[i]?, ys[i]? with | some x, some y => some (.tup [x, y]) | _, _ => none
  | [], ys, i => by simp [zipD]
  | x :: xs, [], i => by
    simp only [zipD, List.getElem?_nil]
    split <;> simp_all
  | x :: xs, y :: ys, 0 => by simp [zipD]
  | x :: xs, y :: ys, i + 1 => by simp only [zipD, List.getElem?_cons_succ]; exact zipD_get xs ys i
theorem zipD_length : ∀ (xs ys : List D), (zipD xs ys).length = min xs.length ys.length
  | [], ys => by simp [zipD]
  | x :: xs, [] => by simp [zipD]
  | x :: xs, y :: ys => by simp only [zipD, List.length_cons, zipD_length xs ys]; omega
variable {X : Cx}
end DL

set_option Elab.async false
set_option linter.all false
set_option maxRecDepth 100000
set_option maxHeartbeats 4000000
set_option autoImplicit false
namespace DL
open PySem PySem.Spec PyProof.Rows L2
/-! ### a, *b = a tuple or a list -/
section
variable {prog : Program} {w : World} {A : Around} {E : Value → Shared → Prop} {s : Shared}
theorem star_tup {l : Addr} {items : Array Value} {n i : Nat} {Q : List Value → Shared → Prop} (hl : IsTup s.heap l items) (hh : A.handled = none) (hi : i < n) (hn : n ≤ items.size + 1) (hz : items.size ≤ sizeLine)
    (h : ∀ (h' : Heap) (tk : Nat), (∀ b o, s.heap.get? b = some o → h'.get? b = some o) →
      Q (items.toList.take i ++ [.ref h'.objs.size] ++ (items.toList.drop i).drop (items.size + 1 - n)) { s with heap := h'.push { cls := .type "list", data := .seq ((items.toList.drop i).take (items.size + 1 - n)).toArray }, toks := tk }) :
    wpAny (model prog w) A (unpackItems (.ref l) n (some i)) Q E s := by
  have hlt : l ≠ s.heap.objs.size := by obtain ⟨o, ho, _⟩ := hl; exact Nat.ne_of_lt (Heap.lt_size ho)
  unfold unpackItems
  refine wpAny_bind ?_
  unfold notIterableAtAll
  refine wpAny_bind (wpAny_specialOf hl.typeIs slot_tuple_iter.lookup ?_)
  refine wpAny_pure ?_
  simp only [Bool.false_eq_true, if_false]
  refine wpAny_bind (wpAny_holding (iter_tuple hl ?_))
  refine wpAny_bind (wpAny_holding (draw_tuple hlt i 0 _ _ ⟨_, Heap.get?_push_size _ rfl, rfl, rfl⟩ (hl.push _) (by omega) fun h₁ hit₁ hs₁ => ?_))
  have hl₁ : IsTup h₁ l items := (hl.push _).extBut hs₁.extBut hlt
  rw [Nat.zero_add] at hit₁
  have hit₁' := hit₁
  obtain ⟨oi, hoi, _⟩ := hit₁'
  have hl₁' := hl₁
  obtain ⟨ol, hol, _⟩ := hl₁'
  rw [List.drop_zero]
  have hfl : (items.toList.take i).length = i := by rw [List.length_take, Array.length_toList]; omega
  rw [if_neg (show ¬ ((items.toList.take i).length < i) by rw [hfl]; omega)]
  refine wpAny_bind (wpAny_holding (PySem.W.kun_collect (s := { s with heap := h₁ }) (T := "tuple_iterator") (.inr (.inr (.inr rfl))) (Walks.tuple (A := A.in1) hh s.heap.objs.size l hlt items) (fun j u st => st.1.typeIs) (k := i) (by omega) ⟨hit₁, hl₁⟩ (Heap.lt_size hoi) (Heap.lt_size hol) (fun h₂ tk hk => ?_) hz))
  have hrl : (items.toList.drop i).length = items.size - i := by rw [List.length_drop, Array.length_toList]
  have hmid : (items.toList.drop i).length - (n - 1 - i) = items.size + 1 - n := by rw [hrl]; omega
  show wpAny _ _ (if (items.toList.drop i).length < n - 1 - i then _ else _) _ _ _
  rw [if_neg (by rw [hrl]; omega)]
  show wpAny _ _ (newList ((items.toList.drop i).take ((items.toList.drop i).length - (n - 1 - i))) >>= fun d => pure (items.toList.take i ++ [d] ++ (items.toList.drop i).drop ((items.toList.drop i).length - (n - 1 - i)))) _ _ _
  rw [hmid]
  have he : ∀ b o, s.heap.get? b = some o → h₂.get? b = some o := fun b o e => hk b o (Nat.ne_of_lt (Heap.lt_size e)) (hs₁.extBut b o (Nat.ne_of_lt (Heap.lt_size e)) (Heap.get?_push_of_some _ e))
  exact wpAny_bind (wpAny_newList (s := { s with heap := h₂, toks := tk }) (wpAny_pure (h h₂ tk he)) (by rw [List.length_take, hrl]; omega))
theorem star_lst' {l : Addr} {items : Array Value} {n i : Nat} {Q : List Value → Shared → Prop} (hl : s.heap.IsList l items) (hh : A.handled = none) (hi : i < n) (hn : n ≤ items.size + 1) (hz : items.size ≤ sizeLine)
    (h : ∀ (h' : Heap) (tk : Nat), (∀ b o, s.heap.get? b = some o → h'.get? b = some o) →
      Q (items.toList.take i ++ [.ref h'.objs.size] ++ (items.toList.drop i).drop (items.size + 1 - n)) { s with heap := h'.push { cls := .type "list", data := .seq ((items.toList.drop i).take (items.size + 1 - n)).toArray }, toks := tk }) :
    wpAny (model prog w) A (unpackItems (.ref l) n (some i)) Q E s := by
  have hlt : l ≠ s.heap.objs.size := by obtain ⟨o, ho, _⟩ := hl; exact Nat.ne_of_lt (Heap.lt_size ho)
  unfold unpackItems
  refine wpAny_bind ?_
  unfold notIterableAtAll
  refine wpAny_bind (wpAny_specialOf hl.typeIs slot_list_iter.lookup ?_)
  refine wpAny_pure ?_
  simp only [Bool.false_eq_true, if_false]
  refine wpAny_bind (wpAny_holding (wpAny_pyIter_list hl ?_))
  refine wpAny_bind (wpAny_holding (PySem.W.kun_draw hlt i 0 _ _ ⟨_, Heap.get?_push_size _ rfl, rfl, rfl⟩ (hl.push _) (by omega) fun h₁ hit₁ hs₁ => ?_))
  have hl₁ : h₁.IsList l items := (hl.push _).extBut hs₁.extBut hlt
  rw [Nat.zero_add] at hit₁
  have hit₁' := hit₁
  obtain ⟨oi, hoi, _⟩ := hit₁'
  have hl₁' := hl₁
  obtain ⟨ol, hol, _⟩ := hl₁'
  rw [List.drop_zero]
  have hfl : (items.toList.take i).length = i := by rw [List.length_take, Array.length_toList]; omega
  rw [if_neg (show ¬ ((items.toList.take i).length < i) by rw [hfl]; omega)]
  refine wpAny_bind (wpAny_holding (PySem.W.kun_collect (s := { s with heap := h₁ }) (T := "list_iterator") (.inr (.inr (.inl rfl))) (Walks.list (A := A.in1) hh s.heap.objs.size l hlt items) (fun j u st => st.1.typeIs) (k := i) (by omega) ⟨hit₁, hl₁⟩ (Heap.lt_size hoi) (Heap.lt_size hol) (fun h₂ tk hk => ?_) hz))
  have hrl : (items.toList.drop i).length = items.size - i := by rw [List.length_drop, Array.length_toList]
  have hmid : (items.toList.drop i).length - (n - 1 - i) = items.size + 1 - n := by rw [hrl]; omega
  show wpAny _ _ (if (items.toList.drop i).length < n - 1 - i then _ else _) _ _ _
  rw [if_neg (by rw [hrl]; omega)]
  show wpAny _ _ (newList ((items.toList.drop i).take ((items.toList.drop i).length - (n - 1 - i))) >>= fun d => pure (items.toList.take i ++ [d] ++ (items.toList.drop i).drop ((items.toList.drop i).length - (n - 1 - i)))) _ _ _
  rw [hmid]
  have he : ∀ b o, s.heap.get? b = some o → h₂.get? b = some o := fun b o e => hk b o (Nat.ne_of_lt (Heap.lt_size e)) (hs₁.extBut b o (Nat.ne_of_lt (Heap.lt_size e)) (Heap.get?_push_of_some _ e))
  exact wpAny_bind (wpAny_newList (s := { s with heap := h₂, toks := tk }) (wpAny_pure (h h₂ tk he)) (by rw [List.length_take, hrl]; omega))
end
section
variable {X : Cx} {pos : Pos}
def gStar (K : PySem.W.Frag) (n i : Nat) (t : TGs) : TG := fun v σ H Q => ∃ a xs, v = .ref a ∧ (SqT K H a xs ∨ SqL K H a xs) ∧ n ≤ xs.length + 1 ∧
  ∀ p, H p = none → t (xs.take i ++ [.ref p] ++ (xs.drop i).drop (xs.length + 1 - n)) σ (upd H p (.lst ((xs.drop i).take (xs.length + 1 - n)))) Q
theorem vals_take {vs : List V} {us : List Value} (h : Vals vs us) : ∀ n : Nat, Vals (vs.take n) (us.take n) := by
  induction h with
  | nil => intro n; simp; exact .nil
  | cons r _ ih =>
    intro n
    cases n with
    | zero => exact .nil
    | succ n => exact .cons r (ih n)
theorem vals_drop {vs : List V} {us : List Value} (h : Vals vs us) : ∀ n : Nat, Vals (vs.drop n) (us.drop n) := by
  induction h with
  | nil => intro n; simp; exact .nil
  | cons r rr ih =>
    intro n
    cases n with
    | zero => exact .cons r rr
    | succ n => exact ih n
theorem vals_app {vs vs' : List V} {us us' : List Value} (h : Vals vs us) (h' : Vals vs' us') : Vals (vs ++ vs') (us ++ us') := by
  induction h with
  | nil => exact h'
  | cons r _ ih => exact .cons r ih
theorem pg_star {es : List Expr} {k : Nat} {t : TGs} {n i : Nat} (hc : X.calm = true) (h : PGs X es t) (hi : i < n)
    (hn : (assignEach es X.env).length = n := by rfl) (hst : (assignEach es X.env).findIdx? (·.1) = some i := by rfl) : PG X (.Tuple es k pos) (gStar X.K n i t) := by
  refine ⟨fun pins s σ H v u Q I r hw => ?_⟩
  obtain ⟨a, xs, e1, hq, hl, hw⟩ := hw
  subst e1
  cases r
  rw [assign_Tuple]
  refine wpAny_bind (wpAny_standAt ?_)
  unfold unpack
  rw [hn, hst]
  have fin : ∀ (its : List Value) (h' : Heap) (tk : Nat), Vals xs its → (∀ b o, s.heap.get? b = some o → h'.get? b = some o) → xs.length ≤ sizeLine →
      wpAny (model X.prog X.w) X.A (assignInOrder ((assignEach es X.env).map (·.2)) (its.take i ++ [.ref h'.objs.size] ++ (its.drop i).drop (its.length + 1 - n))) (fun _ s' => ∃ σ' H', Inv X pins σ' H' s' ∧ Q σ' H') X.xe
        { s with heap := h'.push { cls := .type "list", data := .seq ((its.drop i).take (its.length + 1 - n)).toArray }, toks := tk } := by
    intro its h' tk rv hk hz
    have I1 : Inv X pins σ H { s with heap := h', toks := tk } := I.kept hk
    have hln := rv.length
    have np : H h'.objs.size = none := I1.hok.fresh (Nat.le_refl _)
    have I2 : Inv X pins σ (upd H h'.objs.size (.lst ((xs.drop i).take (xs.length + 1 - n)))) { s with heap := h'.push { cls := .type "list", data := .seq ((its.drop i).take (its.length + 1 - n)).toArray }, toks := tk } :=
      I1.laid (t' := tk) (fun b u e => Heap.get?_push_of_some _ e) (Nat.le_refl _)
        (show ObjOk X.prog X.w _ _ _ (.lst ((xs.drop i).take (xs.length + 1 - n))) from ⟨by rw [List.length_take, List.length_drop]; omega, _, 0, by rw [← hln]; exact vals_take (vals_drop rv i) _, Heap.get?_push_size _ rfl⟩)
    refine h.run pins _ σ _ _ _ Q I2 ?_ (hw _ np)
    exact vals_app (vals_app (vals_take rv i) (.cons rfl .nil)) (by rw [← hln]; exact vals_drop (vals_drop rv i) _)
  rcases hq with hq | hq
  · obtain ⟨its, rv, ht, hz⟩ := I.tuple hq
    have hln := rv.length
    refine wpAny_bind (wpAny_holding (star_tup ht (I.ok.hd hc) hi (by rw [List.size_toArray]; omega) (by rw [List.size_toArray]; omega) fun h' tk hk => ?_))
    have := fin its h' tk rv hk hz
    simpa using this
  · obtain ⟨its, rv, ht, hz⟩ := I.list hq
    have hln := rv.length
    refine wpAny_bind (wpAny_holding (star_lst' ht.isList (I.ok.hd hc) hi (by rw [List.size_toArray]; omega) (by rw [List.size_toArray]; omega) fun h' tk hk => ?_))
    have := fin its h' tk rv hk hz
    simpa using this
end
section
variable {X : Cx} {pos : Pos}
theorem pgs_star {e : Expr} {es : List Expr} {t : TG} {u : TGs} {p : Pos} (h1 : PG X e t) (h2 : PGs X es u)
    (hs : (assignEach (.Starred e p :: es) X.env).map (·.2) = assign e X.env :: (assignEach es X.env).map (·.2) := by rfl) : PGs X (.Starred e p :: es) (gCons t u) := by
  refine ⟨fun pins s σ H vs us Q I r h => ?_⟩
  obtain ⟨v, vr, e1, h⟩ := h
  subst e1
  cases r with
  | cons r rr =>
    rw [hs]
    exact assignInOrder_cons (thn (h1.run pins s σ H _ _ _ I r h) fun _ s1 ⟨σ1, H1, I1, q1⟩ => h2.run pins s1 σ1 H1 _ _ Q I1 rr q1)
def starD (n i : Nat) (ds : List D) : List D := ds.take i ++ [.lst ((ds.drop i).take (ds.length + 1 - n))] ++ (ds.drop i).drop (ds.length + 1 - n)
def dStar (n i : Nat) (is : List Nat) : DG := fun d σ G R => match d with
  | .tup ds => n ≤ ds.length + 1 ∧ R (setAll σ is (starD n i ds)) G
  | .lst ds => n ≤ ds.length + 1 ∧ R (setAll σ is (starD n i ds)) G
  | _ => False
theorem rds_take {K : PySem.W.Frag} {H : Hp} {N : Ns} : ∀ {ds : List D} {vs : List V} (n : Nat), RDs K H N ds vs → RDs K H N (ds.take n) (vs.take n)
  | [], vs, n, h => by rw [h.of_nil]; simp; exact RDs.nil
  | d :: ds, vs, 0, h => RDs.nil
  | d :: ds, vs, n + 1, h => by
    obtain ⟨v, r, rfl, h1, h2⟩ := h.of_cons
    exact RDs.cons h1 (rds_take n h2)
theorem rds_drop {K : PySem.W.Frag} {H : Hp} {N : Ns} : ∀ {ds : List D} {vs : List V} (n : Nat), RDs K H N ds vs → RDs K H N (ds.drop n) (vs.drop n)
  | [], vs, n, h => by rw [h.of_nil]; simp; exact RDs.nil
  | d :: ds, vs, 0, h => h
  | d :: ds, vs, n + 1, h => by
    obtain ⟨v, r, rfl, h1, h2⟩ := h.of_cons
    exact rds_drop n h2
theorem rds_app {K : PySem.W.Frag} {H : Hp} {N : Ns} : ∀ {ds es : List D} {vs ws : List V}, RDs K H N ds vs → RDs K H N es ws → RDs K H N (ds ++ es) (vs ++ ws)
  | [], es, vs, ws, h, h' => by rw [h.of_nil]; exact h'
  | d :: ds, es, vs, ws, h, h' => by
    obtain ⟨v, r, rfl, h1, h2⟩ := h.of_cons
    exact RDs.cons h1 (rds_app h2 h')
theorem qg_star {es : List Expr} {k n i : Nat} {is : List Nat} (hc : X.calm = true) (h : PGs X es (gNames is)) (hi : i < n) (hl : is.length = n)
    (hn : (assignEach es X.env).length = n := by rfl) (hst : (assignEach es X.env).findIdx? (·.1) = some i := by rfl) : QG X (.Tuple es k pos) (dStar n i is) := pg_mono (pg_star hc h hi hn hst) fun v τ H Q h => by
  obtain ⟨d, σ, G, N, R, rd, rs, rg, h0, q⟩ := h
  have go : ∀ (p : Addr) (vs : List V) (ds : List D), RDs X.K H N ds vs → n ≤ ds.length + 1 → R (setAll σ is (starD n i ds)) G → H p = none →
      gNames is (vs.take i ++ [.ref p] ++ (vs.drop i).drop (vs.length + 1 - n)) τ (upd H p (.lst ((vs.drop i).take (vs.length + 1 - n)))) Q := by
    intro p vs ds r hln h0 np
    have hlv := r.length
    refine gNames_ok (by simp only [List.length_append, List.length_take, List.length_drop, List.length_cons, List.length_nil]; omega) ?_
    have s2 := Stp.newV (u := .lst ((vs.drop i).take (vs.length + 1 - n))) rg np
    refine q _ _ _ _ _ h0 s2 (RSt.setAll is (rs.le s2.kp) ?_)
    unfold starD
    rw [hlv]
    refine rds_app (rds_app (rds_take i (r.le s2.kp)) (RDs.cons ?_ RDs.nil)) (rds_drop _ (rds_drop i (r.le s2.kp)))
    exact RD.lst (.inl ⟨upd_same, fun z => z.1 rfl⟩) (rds_take _ (rds_drop i (r.le s2.kp)))
  unfold dStar at h0
  split at h0
  · obtain ⟨p, vs, rfl, sq, r⟩ := rd.of_tup
    exact ⟨p, vs, rfl, .inl sq, by rw [← r.length]; exact h0.1, fun p' np => go p' vs _ r h0.1 h0.2 np⟩
  · obtain ⟨p, vs, rfl, sq, r⟩ := rd.of_lst
    exact ⟨p, vs, rfl, .inr sq.sq, by rw [← r.length]; exact h0.1, fun p' np => go p' vs _ r h0.1 h0.2 np⟩
  · exact h0.elim
theorem starD_one (d : D) (ds : List D) : starD 2 1 (d :: ds) = [d, .lst ds] := by
  unfold starD
  simp
end
end DL

set_option Elab.async false
set_option linter.all false
set_option maxRecDepth 100000
set_option maxHeartbeats 4000000
set_option autoImplicit false
namespace DL
open PySem PySem.Spec PyProof.Rows L2
/-! ### the module's tuples and dicts -/
/-- what stands written: the value u is the data d, whatever else stands -/
def Kc (K : PySem.W.Frag) (d : D) (u : Value) : Prop := ∃ v, RelV v u ∧ ∀ H N, RD K H N d v
theorem kc_ref {K : PySem.W.Frag} {p : Addr} : Kc K (.ref p) (.ref p) := ⟨.ref p, rfl, fun H N => RD.ref p⟩
variable {X : Cx}
theorem qe_globD {x : Str} {p : Pos} {d : D} (hg : Gl X x) (hm : ∃ u, X.mg x = some u ∧ Kc X.K d u) (hdb : (x == ("__debug__" : Str)) = false := by decide) : QE X (.Name x p) (dC d) := by
  obtain ⟨u, hm, v, r, k⟩ := hm
  exact pe_mono (pe_glob hg hm r hdb) fun τ H Q h => by
    obtain ⟨σ, G, N, R, hs, hgg, ht, q⟩ := h
    exact q _ _ _ _ _ ht (Stp.refl hgg) (k H N)
/-- a dict of the module's, with text keys -/
def KD (K : PySem.W.Frag) (w : World) (d : Addr) (kvs : List (Str × D)) : Prop := ∃ es n, KDict K w d es n ∧ ∀ z, match kvs.lookup z with
  | some x => ∃ u, PySem.W.nsIn K d z = some (some u) ∧ Kc K x u
  | none => PySem.W.nsIn K d z = some none
def dInK (d : Addr) (kvs : List (Str × D)) (f : Bool → Bool) : DR2 := fun x y G R => match x with | .str z => y = .ref d ∧ R (.bl (f (kvs.lookup z).isSome)) G | _ => False
def dIxK (d : Addr) (kvs : List (Str × D)) : DR2 := fun x y G R => match y with | .str z => x = .ref d ∧ (match kvs.lookup z with | some v => R v G | none => False) | _ => False
theorem xd_kd {d : Addr} {kvs : List (Str × D)} (h : KD X.K X.w d kvs) : IxD X (dIxK d kvs) := by
  obtain ⟨es, n, D, hz⟩ := h
  refine ixr_mono ix_kdict fun x y H Q h => ?_
  obtain ⟨c, e, G, N, R, r1, r2, rg, h, q⟩ := h
  unfold dIxK at h
  split at h
  · rename_i z
    obtain ⟨rfl, h⟩ := h
    obtain rfl := r1.of_ref
    obtain rfl := r2.of_str
    have hz := hz z
    cases e : kvs.lookup z with
    | none => rw [e] at h; exact h.elim
    | some x =>
      rw [e] at hz h
      obtain ⟨u, hz, v, hv, k⟩ := hz
      exact ⟨d, z, v, rfl, rfl, ⟨es, n, u, D.at_, D.lit, hz, hv⟩, q.at rg h (k H N)⟩
  · exact h.elim
/-- a written dict's look -/
theorem ns_find {K : PySem.W.Frag} {d : Addr} {oc : Value} {od : Option Addr} {es : List DictEntry} {n : Nat} {sl : Array (Option Value)} (l : K.lookup d = some ⟨oc, od, .dict es.toArray n, sl⟩) (z : Str) :
    PySem.W.nsIn K d z = (match es.find? (·.key.isStr z) with | some e => some (some e.val) | none => if es.any (·.refKey) then none else some none) := by
  unfold PySem.W.nsIn
  rw [l]
  rfl
/-- entries, told by keys, tokens and values -/
def entK (P : Params) : List (Str × Tok × Value) → List DictEntry
  | [] => []
  | (k, t, v) :: r => ⟨PyData.keyHash P k, .str k t, v⟩ :: entK P r
theorem entK_lit {P : Params} : ∀ l : List (Str × Tok × Value), PySem.W.KeysLit P (entK P l)
  | [] => trivial
  | (k, t, v) :: r => ⟨⟨k, t, rfl, rfl⟩, entK_lit r⟩
inductive KvOk (K : PySem.W.Frag) : List (Str × D) → List (Str × Tok × Value) → Prop where
  | nil : KvOk K [] []
  | cons {k : Str} {t : Tok} {v : Value} {x : D} {kvs : List (Str × D)} {l : List (Str × Tok × Value)} : Kc K x v → KvOk K kvs l → KvOk K ((k, x) :: kvs) ((k, t, v) :: l)
theorem entK_look {K : PySem.W.Frag} {P : Params} {z : Str} {kvs : List (Str × D)} {l : List (Str × Tok × Value)} (h : KvOk K kvs l) : match kvs.lookup z with
    | some x => ∃ e, (entK P l).find? (·.key.isStr z) = some e ∧ Kc K x e.val
    | none => (entK P l).find? (·.key.isStr z) = none ∧ (entK P l).any (·.refKey) = false := by
  induction h with
  | nil => exact ⟨rfl, rfl⟩
  | @cons k t v x kvs l hx _ ih =>
    rw [List.lookup_cons]
    unfold entK
    rw [List.find?_cons]
    have e1 : (Value.str k t).isStr z = (k == z) := rfl
    simp only [e1]
    by_cases e : z = k
    · subst e
      simp only [beq_self_eq_true]
      exact ⟨_, rfl, hx⟩
    · have e2 : (z == k) = false := by simpa using e
      have e3 : (k == z) = false := by simp; exact fun h => e h.symm
      simp only [e2, e3]
      cases e4 : kvs.lookup z with
      | none => rw [e4] at ih; simp only at ih ⊢; exact ⟨ih.1, by simp [DictEntry.refKey]; simpa [DictEntry.refKey] using ih.2⟩
      | some y => rw [e4] at ih; exact ih
theorem kd_mk {K : PySem.W.Frag} {w : World} {d : Addr} {n : Nat} {kvs : List (Str × D)} (l : List (Str × Tok × Value)) (hl : K.lookup d = some ⟨.type "dict", none, .dict (entK w.params l).toArray n, #[]⟩) (low : (d == sysModules) = false) (h : KvOk K kvs l) : KD K w d kvs := by
  refine ⟨_, n, ⟨hl, by simpa using entK_lit l, low⟩, fun z => ?_⟩
  have := entK_look (P := w.params) (z := z) h
  rw [ns_find hl]
  cases e : kvs.lookup z with
  | none =>
    rw [e] at this
    rw [this.1, this.2]
    rfl
  | some x =>
    rw [e] at this
    obtain ⟨e, h1, h2⟩ := this
    rw [h1]
    exact ⟨_, rfl, h2⟩
end DL

set_option Elab.async false
set_option linter.all false
set_option maxRecDepth 100000
set_option maxHeartbeats 4000000
set_option autoImplicit false
namespace DL
open PySem PySem.Spec PyProof.Rows L2
/-! ### zip of lists and tuples in any mix: the kind of a source is told by a Bool (true: a list) -/
def sqB (l : Bool) (K : PySem.W.Frag) (H : Hp) (a : Addr) (xs : List V) : Prop := match l with | true => SqL K H a xs | false => SqT K H a xs
def itB (l : Bool) (h : Heap) (it a : Addr) (i : Nat) : Prop := match l with | true => h.IsListIter it a i | false => h.IsTupleIter it a i
def srB (l : Bool) (h : Heap) (a : Addr) (its : Array Value) : Prop := match l with | true => h.IsList a its | false => h.IsTuple a its
def boB (l : Bool) (a : Addr) : Obj := match l with | true => { cls := .type "list_iterator", data := .fields #[.ref a, .int 0 0] } | false => { cls := .type "tuple_iterator", data := .fields #[.ref a, .int 0 0] }
theorem drB {prog : Program} {w : World} {A : Around} (hh : A.handled = none) (l : Bool) (it a : Addr) (hne : a ≠ it) (its : Array Value) : Draws prog w A it [it, a] its.size (fun i v => its[i]? = some v) (fun i h => itB l h it a i ∧ srB l h a its) := by
  cases l
  · exact Draws.tuple hh it a hne its
  · exact Draws.list hh it a hne its
theorem beB (l : Bool) (a : Addr) (its : Array Value) : Begins (.ref a) (boB l a) fun h => srB l h a its := by
  cases l
  · exact begins_tuple a its
  · exact begins_list a its
theorem itB_at {l : Bool} {h h' : Heap} {it a : Addr} {i : Nat} (x : itB l h it a i) (k : ∀ o, h.get? it = some o → h'.get? it = some o) : itB l h' it a i := by
  cases l
  · exact Heap.IsTupleIter.at x k
  · exact Heap.IsListIter.at x k
theorem itB_obj {l : Bool} {h : Heap} {it a : Addr} {i : Nat} (x : itB l h it a i) : ∃ o, h.get? it = some o ∧ ∀ v, o.data ≠ .cell v := by
  cases l
  · obtain ⟨o, e, _, d⟩ := x; exact ⟨o, e, fun v q => by rw [d] at q; cases q⟩
  · obtain ⟨o, e, _, d⟩ := x; exact ⟨o, e, fun v q => by rw [d] at q; cases q⟩
theorem itB_new {l : Bool} {h : Heap} {it a : Addr} (e : h.get? it = some (boB l a)) : itB l h it a 0 := by
  cases l
  · exact ⟨_, e, rfl, rfl⟩
  · exact ⟨_, e, rfl, rfl⟩
theorem srB_of {X : Cx} {pins : List (Addr × Obj)} {σ : L2.St} {H : Hp} {s : Shared} {l : Bool} {a : Addr} {xs : List V} (I : Inv X pins σ H s) (h : sqB l X.K H a xs) : ∃ its : List Value, Vals xs its ∧ srB l s.heap a its.toArray ∧ a < s.heap.objs.size := by
  cases l
  · obtain ⟨its, rv, p, _⟩ := I.tuple h
    obtain ⟨o, ho, _⟩ := id p
    exact ⟨its, rv, p, Heap.lt_size ho⟩
  · obtain ⟨its, rv, p, _⟩ := I.list h
    exact ⟨its, rv, p.isList, p.lt⟩
theorem sqB_inj {X : Cx} {pins : List (Addr × Obj)} {σ : L2.St} {H : Hp} {s : Shared} {l : Bool} {a : Addr} {xs ys : List V} (I : Inv X pins σ H s) (h : sqB l X.K H a xs) (h' : sqB l X.K H a ys) : xs = ys := by
  cases l
  · exact I.tuple_inj h h'
  · exact I.list_inj h h'
def ItM (K : PySem.W.Frag) (l1 l2 : Bool) (a b : Addr) : It :=
  ⟨fun i H => ∃ (xs ys : List V) (x y : V), sqB l1 K H a xs ∧ sqB l2 K H b ys ∧ xs[i]? = some x ∧ ys[i]? = some y,
    fun i H v H' => ∃ T x y, v = .ref T ∧ H T = none ∧ H' = upd H T (.tup [x, y]) ∧ (∀ xs, sqB l1 K H a xs → xs[i]? = some x) ∧ ∀ ys, sqB l2 K H b ys → ys[i]? = some y,
    fun i H => ∃ xs ys : List V, sqB l1 K H a xs ∧ sqB l2 K H b ys ∧ min xs.length ys.length = i⟩
theorem turn_zipM {P : Program} {w : World} {K : PySem.W.Frag} {elts : List Expr} {kk : Nat} {tpos : Pos} {l1 l2 : Bool} {a b z TI TO i1 i2 : Addr} (S : ZipSep2 z TI TO i1 i2 [i1, a] [i2, b]) (ne1 : a ≠ i1) (ne2 : b ≠ i2) :
    Turn P w K (.Tuple elts kk tpos) (ItM K l1 l2 a b) [z, TI, TO, i1, i2] z (fun i h => IsZip h z TI TO .none ∧ IsTupOf2 h TI (.ref i1) (.ref i2) ∧ (∃ x y, IsTupOf2 h TO x y) ∧ itB l1 h i1 a i ∧ itB l2 h i2 b i) where
  mem := by simp
  obj := fun i h st c hc => by
    obtain ⟨hz, hTI, ⟨x, y, hTO⟩, s1, s2⟩ := st
    have e' : c = z ∨ c = TI ∨ c = TO ∨ c = i1 ∨ c = i2 := by simpa using hc
    rcases e' with rfl | rfl | rfl | rfl | rfl
    · exact ⟨_, hz, fun v q => nomatch q⟩
    · exact ⟨_, hTI, fun v q => nomatch q⟩
    · exact ⟨_, hTO, fun v q => nomatch q⟩
    · exact itB_obj s1
    · exact itB_obj s2
  keep := fun i h h' st k => by
    obtain ⟨hz, hTI, ⟨x, y, hTO⟩, s1, s2⟩ := st
    exact ⟨k _ (by simp) _ hz, k _ (by simp) _ hTI, ⟨x, y, k _ (by simp) _ hTO⟩, itB_at s1 fun o q => k _ (by simp) o q, itB_at s2 fun o q => k _ (by simp) o q⟩
  item := by
    intro X hP hw hK hc i pins s σ H E I hf st hg
    subst hP hw hK
    obtain ⟨xs, ys, x, y, hqx, hqy, hx, hy⟩ := hg
    obtain ⟨its, rv, p, la⟩ := srB_of I hqx
    obtain ⟨its2, rv2, p2, lb⟩ := srB_of I hqy
    obtain ⟨hz, hTI, hTO, h1, h2⟩ := st
    have h1' := itB_obj h1
    have h2' := itB_obj h2
    have n1 := rv.length
    have n2 := rv2.length
    have hi1 : i < xs.length := (List.getElem?_eq_some_iff.mp hx).1
    have hi2 : i < ys.length := (List.getElem?_eq_some_iff.mp hy).1
    have hh : X.A.in1.handled = none := I.ok.hd hc
    have W := GoesN.zip2 (prog := X.prog) (w := X.w) (A := X.A) (elts := elts) (x1 := kk) (pos := tpos) S (drB hh l1 i1 a ne1 its.toArray) (drB hh l2 i2 b ne2 its2.toArray)
    refine W.goes i s _ E (by simp only [List.size_toArray]; omega) ⟨hz, hTI, hTO, ⟨h1, p⟩, h2, p2⟩ fun v h' tk hY hSt hk htk => ?_
    obtain ⟨T, u, u2, rfl, hT, hu, hu2, hTT⟩ := hY
    obtain ⟨hz', hTI', hTO', ⟨h1'', _⟩, h2'', _⟩ := hSt
    obtain ⟨u0, hu0, ru⟩ := rv.get hx
    obtain ⟨u20, hu20, ru2⟩ := rv2.get hy
    have eu : u0 = u := by
      have : its[i]? = some u := by simpa using hu
      rw [hu0] at this; exact Option.some.inj this
    have eu2 : u20 = u2 := by
      have : its2[i]? = some u2 := by simpa using hu2
      rw [hu20] at this; exact Option.some.inj this
    subst eu eu2
    have lt5 : ∀ c ∈ [z, TI, TO, i1, i2], c < s.heap.objs.size := by
      intro c hcm
      obtain ⟨ta, tb, hTO⟩ := hTO
      have e' : c = z ∨ c = TI ∨ c = TO ∨ c = i1 ∨ c = i2 := by simpa using hcm
      rcases e' with rfl | rfl | rfl | rfl | rfl
      · exact Heap.lt_size hz
      · exact Heap.lt_size hTI
      · exact Heap.lt_size hTO
      · obtain ⟨_, e, _⟩ := h1'; exact Heap.lt_size e
      · obtain ⟨_, e, _⟩ := h2'; exact Heap.lt_size e
    have new : ObjOk X.prog X.w (upd H T (.tup [x, y])) h' T (.tup [x, y]) := ⟨by show 2 ≤ sizeLine; decide, [u0, u20], .cons ru (.cons ru2 .nil), hTT⟩
    have I1 : Inv X pins σ (upd H T (.tup [x, y])) { s with heap := h', toks := tk } :=
      I.turnedNew (t' := tk) (ch := [z, TI, TO, i1, i2]) (fun c o hb q => hk c o (fun m => hb (by simp only [List.mem_cons, List.not_mem_nil, or_false] at m ⊢; rcases m with m | m | m | m <;> simp [m])) q) hf hT new
    refine ⟨.ref T, _, I1, rfl, ⟨T, x, y, rfl, I.hok.fresh hT, rfl, fun l hl => by rw [sqB_inj I hl hqx]; exact hx, fun l hl => by rw [sqB_inj I hl hqy]; exact hy⟩, ⟨hz', hTI', hTO', h1'', h2''⟩, fun c hcm => ?_⟩
    rw [upd_ne (Nat.ne_of_lt (Nat.lt_of_lt_of_le (lt5 c hcm) hT))]
    exact (hf c hcm).1
  done := by
    intro X hP hw hK hc i pins s σ H E I hf st hg
    subst hP hw hK
    obtain ⟨xs, ys, hqx, hqy, hend⟩ := hg
    obtain ⟨its, rv, p, la⟩ := srB_of I hqx
    obtain ⟨its2, rv2, p2, lb⟩ := srB_of I hqy
    obtain ⟨hz, hTI, hTO, h1, h2⟩ := st
    have n1 := rv.length
    have n2 := rv2.length
    have hh : X.A.in1.handled = none := I.ok.hd hc
    have W := GoesN.zip2 (prog := X.prog) (w := X.w) (A := X.A) (elts := elts) (x1 := kk) (pos := tpos) S (drB hh l1 i1 a ne1 its.toArray) (drB hh l2 i2 b ne2 its2.toArray)
    have en : min its.toArray.size its2.toArray.size = i := by simp only [List.size_toArray]; omega
    rw [← en] at h1 h2
    exact W.stops s _ E ⟨hz, hTI, hTO, ⟨h1, p⟩, h2, p2⟩ fun h' tk hk htk => I.turnedL (t' := tk) (ch := [z, TI, TO, i1, i2]) (fun c o hb q => hk c o (fun m => hb (by simp only [List.mem_cons, List.not_mem_nil, or_false] at m ⊢; rcases m with m | m | m | m <;> simp [m])) q) hf
  self := fun A i s Q E st h => wpAny_pyIter_zip st.1 h
def iZipM (K : PySem.W.Frag) (ta : TA) : TI := fun σ H R => ta σ H fun vs H1 => ∃ l1 l2 a b xs ys, vs = [.ref a, .ref b] ∧ sqB l1 K H1 a xs ∧ sqB l2 K H1 b ys ∧ R (ItM K l1 l2 a b) H1
theorem pi_zipM {X : Cx} {e e2 : Expr} {ta : TA} {p pos tpos : Pos} {elts : List Expr} {kk : Nat} (hg : Gl X "zip") (hm : X.mg "zip" = none) (ha : PA X [e, e2] ta)
    (hs : starEach [e, e2] X.env = (false, eval e X.env) :: starEach [e2] X.env := by rfl) (hpl : (backTo pos (starEach [e2] X.env)).any (·.1) = false := by rfl) :
    PI X (.Tuple elts kk tpos) (.Call (.Name "zip" p) [e, e2] [] pos) (iZipM X.K ta) := by
  refine ⟨fun pins s σ H R I h => ?_⟩
  refine Call_ (ld_blt I hg hm PyProof.Rows.boot_zip (PyProof.Rows.callWith_type1 (thn (ha.run pos pins s σ H _ I h) fun us s1 ⟨vs, H1, I1, r1, q1⟩ => ?_) hs hpl))
  obtain ⟨l1, l2, a, b, xs, ys, ex, hqx, hqy, q⟩ := q1
  subst ex
  cases r1 with
  | cons r rr =>
    cases rr with
    | cons r' rr =>
      cases rr
      cases r
      cases r'
      obtain ⟨its, rv, p1, la⟩ := srB_of I1 hqx
      obtain ⟨its2, rv2, p2, lb⟩ := srB_of I1 hqy
      refine zip_begins2 (beB l1 a its.toArray) (beB l2 b its2.toArray) p1 p2 fun h' hz hTI hTO h1 h2 hsz hk => wpAny_pyIter_zip hz ?_
      have I2 : Inv X pins σ H1 { s1 with heap := h' } := I1.kept (t' := s1.toks) hk
      have S : ZipSep2 (s1.heap.objs.size + 4) (s1.heap.objs.size + 2) (s1.heap.objs.size + 3) s1.heap.objs.size (s1.heap.objs.size + 1) [s1.heap.objs.size, a] [s1.heap.objs.size + 1, b] :=
        zip_sep2 (N := s1.heap.objs.size) (fp1 := [a]) (fp2 := [b]) (fun c hc => by rw [List.mem_singleton] at hc; subst hc; exact la) (fun c hc => by rw [List.mem_singleton] at hc; subst hc; exact lb)
      refine ⟨s1.heap.objs.size + 4, [s1.heap.objs.size + 4, s1.heap.objs.size + 2, s1.heap.objs.size + 3, s1.heap.objs.size, s1.heap.objs.size + 1], _, _, H1, rfl, I2,
        turn_zipM (l1 := l1) (l2 := l2) S (Nat.ne_of_lt la) (Nat.ne_of_lt (Nat.lt_succ_of_lt lb)), ⟨hz, hTI, ⟨_, _, hTO⟩, itB_new h1, itB_new h2⟩, fun c hcm => ?_, q⟩
      have hle : s1.heap.objs.size ≤ c := by
        have e' : c = s1.heap.objs.size + 4 ∨ c = s1.heap.objs.size + 2 ∨ c = s1.heap.objs.size + 3 ∨ c = s1.heap.objs.size ∨ c = s1.heap.objs.size + 1 := by simpa using hcm
        rcases e' with z | z | z | z | z <;> rw [z] <;> first | exact Nat.le_refl _ | exact Nat.le_add_right _ _
      exact I1.fpOk hle (I1.hok.fresh hle)
theorem yl_zipM {K : PySem.W.Frag} {H0 : Hp} {N0 : Ns} {G0 : Gp} {l1 l2 : Bool} {a b : Addr} {ds es : List D} {gd : Gp → Prop} (h : ∀ H N G, Stp K H0 N0 G0 H N G → gd G → ∃ vs ws, sqB l1 K H a vs ∧ RDs K H N ds vs ∧ sqB l2 K H b ws ∧ RDs K H N es ws) : Yl K (ItM K l1 l2 a b) H0 N0 G0 (zipD ds es) gd := by
  refine ⟨fun i H N G d s g e => ?_, fun i H N G s g e => ?_⟩
  · obtain ⟨vs, ws, sq, r, sq', r'⟩ := h H N G s g
    rw [zipD_get] at e
    cases ed : ds[i]? with
    | none => rw [ed] at e; cases e
    | some d0 =>
      cases ee : es[i]? with
      | none => rw [ed, ee] at e; cases e
      | some e0 =>
        rw [ed, ee] at e
        cases e
        obtain ⟨v, hv, rv⟩ := r.get ed
        obtain ⟨u, hu, ru⟩ := r'.get ee
        refine ⟨⟨vs, ws, v, u, sq, sq', hv, hu⟩, fun x H' y => ?_⟩
        obtain ⟨T, x1, y1, rfl, nT, rfl, y, y'⟩ := y
        have e2 := y vs sq
        rw [hv] at e2; cases e2
        have e3 := y' ws sq'
        rw [hu] at e3; cases e3
        have s2 := Stp.new0 (u := .tup [v, u]) s.rel nT
        exact ⟨s2, RD.tup (.inl (.inl upd_same)) (RDs.cons (rv.le s2.kp) (RDs.cons (ru.le s2.kp) RDs.nil))⟩
  · obtain ⟨vs, ws, sq, r, sq', r'⟩ := h H N G s g
    rw [zipD_length] at e
    exact ⟨vs, ws, sq, sq', by rw [← r.length, ← r'.length]; exact e⟩
/-- a source, told by data -/
def srcD (G : Gp) : D → Option (Bool × List D × (Gp → Prop))
  | .tup ds => some (false, ds, fun _ => True)
  | .nt zs => some (false, zs.map .str, fun _ => True)
  | .lst ds => some (true, ds, fun _ => True)
  | .ref a => match G a with | some (.lst ds) => some (true, ds, fun G => G a = some (.lst ds)) | _ => none
  | _ => none
theorem srcD_ok {K : PySem.W.Frag} {H0 : Hp} {N0 : Ns} {G0 : Gp} {d : D} {v : V} {l : Bool} {ds : List D} {gd : Gp → Prop} (rg : RelG K H0 N0 G0) (rd : RD K H0 N0 d v) (h : srcD G0 d = some (l, ds, gd)) :
    ∃ a, v = .ref a ∧ (∃ vs, sqB l K H0 a vs) ∧ ∀ H N G, Stp K H0 N0 G0 H N G → gd G → ∃ vs, sqB l K H a vs ∧ RDs K H N ds vs := by
  unfold srcD at h
  split at h
  · cases h
    obtain ⟨p, vs, rfl, sq, r⟩ := rd.of_tup
    exact ⟨p, rfl, ⟨vs, sq⟩, fun H N G s _ => ⟨vs, SqT.le s.kp.kle sq, r.le s.kp⟩⟩
  · cases h
    obtain ⟨p, vs, rfl, sq, r⟩ := rd.nt_tup.of_tup
    exact ⟨p, rfl, ⟨vs, sq⟩, fun H N G s _ => ⟨vs, SqT.le s.kp.kle sq, r.le s.kp⟩⟩
  · cases h
    obtain ⟨p, vs, rfl, sq, r⟩ := rd.of_lst
    exact ⟨p, rfl, ⟨vs, sq.sq⟩, fun H N G s _ => ⟨vs, (sq.le s.kp).sq, r.le s.kp⟩⟩
  · split at h
    · rename_i e
      cases h
      obtain rfl := rd.of_ref
      obtain ⟨_, vs, hv, r⟩ := rg _ _ e
      refine ⟨_, rfl, ⟨vs, SqL.of hv⟩, fun H N G s g => ?_⟩
      obtain ⟨_, vs, hv, r⟩ := s.rel _ _ g
      exact ⟨vs, SqL.of hv, r⟩
    · cases h
  · cases h
def dZipM (ta : DA) : DI := fun σ G R => ta σ G fun ds G1 => match ds with
  | [x, y] => (match srcD G1 x, srcD G1 y with | some (_, xs, g1), some (_, ys, g2) => R (zipD xs ys) (fun G => g1 G ∧ g2 G) G1 | _, _ => False)
  | _ => False
theorem qi_zipM {X : Cx} {e e2 : Expr} {ta : DA} {p pos tpos : Pos} {elts : List Expr} {kk : Nat} (hg : Gl X "zip") (hm : X.mg "zip" = none) (ha : QA X [e, e2] ta)
    (hs : starEach [e, e2] X.env = (false, eval e X.env) :: starEach [e2] X.env := by rfl) (hpl : (backTo pos (starEach [e2] X.env)).any (·.1) = false := by rfl) :
    QI X (.Tuple elts kk tpos) (.Call (.Name "zip" p) [e, e2] [] pos) (dZipM ta) := pi_mono (pi_zipM hg hm ha hs hpl) fun τ H Q h => by
  obtain ⟨σ, G, N, R, hs, hg, ht, q⟩ := h
  refine ⟨σ, G, N, _, hs, hg, ht, fun ds G1 N1 vs H1 h1 s1 r1 => ?_⟩
  split at h1
  · rename_i x y
    split at h1
    · rename_i l1 xs g1 l2 ys g2 e1 e2
      obtain ⟨v, r, rfl, r2, r3⟩ := r1.of_cons
      obtain ⟨v', r', rfl, r4, r5⟩ := r3.of_cons
      rw [r5.of_nil]
      obtain ⟨a, rfl, ⟨vs, sq⟩, k1⟩ := srcD_ok s1.rel r2 e1
      obtain ⟨b, rfl, ⟨ws, sq'⟩, k2⟩ := srcD_ok s1.rel r4 e2
      refine ⟨l1, l2, a, b, vs, ws, rfl, sq, sq', q _ _ _ _ _ _ h1 s1 (yl_zipM fun H N G s g => ?_)⟩
      obtain ⟨vs, h1, h2⟩ := k1 H N G s g.1
      obtain ⟨ws, h3, h4⟩ := k2 H N G s g.2
      exact ⟨vs, ws, h1, h2, h3, h4⟩
    · exact h1.elim
  · exact h1.elim
end DL

set_option Elab.async false
set_option linter.all false
set_option maxRecDepth 100000
set_option maxHeartbeats 4000000
set_option autoImplicit false
namespace DL
open PySem PySem.Spec PyProof.Rows L2
/-! ### == of a dict and a text -/
section
variable {A : Around} {s : Shared}
end
variable {X : Cx}
end DL

set_option Elab.async false
set_option linter.all false
set_option maxRecDepth 100000
set_option maxHeartbeats 4000000
set_option autoImplicit false
namespace DL
open PySem PySem.Spec PyProof.Rows L2
/-! ### steps in applied form -/
/-- what goes on, kept shut -/
def Kont (P : Sd → Gp → Prop) : Sd → Gp → Prop := P
theorem kont_go {P : Sd → Gp → Prop} {σ : Sd} {G : Gp} (h : P σ G) : Kont P σ G := h
def br (b : Bool) (A B : Prop) : Prop := match b with | true => A | false => B
def isB (x : D) (k : Bool → Prop) : Prop := match x with | .bl b => k b | _ => False
def isI (x : D) (k : Int → Prop) : Prop := match x with | .int b => k b | _ => False
def isN (x : Option D) (k : D → Prop) : Prop := match x with | some b => k b | none => False
def slo (x : Option (Option D)) (k : D → Prop) : Prop := match x with | some (some d) => k d | _ => False
section
variable {A B : Prop} {b c : Bool} {k : Bool → Prop} {ki : Int → Prop} {kd : D → Prop} {i : Int} {d : D}
theorem br_t : br true A B = A := rfl
theorem br_f : br false A B = B := rfl
theorem br_not : br (!b) A B = br b B A := by cases b <;> rfl
theorem br_dec {P : Prop} [Decidable P] : br (decide P) A B = if P then A else B := by
  by_cases h : P
  · rw [decide_eq_true h, if_pos h]; rfl
  · rw [decide_eq_false h, if_neg h]; rfl
theorem br_and : br (b && c) A B = br b (br c A B) B := by cases b <;> rfl
theorem br_or : br (b || c) A B = br b A (br c A B) := by cases b <;> rfl
theorem isB_bl : isB (.bl b) k = k b := rfl
theorem isI_int : isI (.int i) ki = ki i := rfl
theorem isN_some : isN (some d) kd = kd d := rfl
theorem slo_some : slo (some (some d)) kd = kd d := rfl
end
section
variable {σ : Sd} {G : Gp} {R : DK} {Rb : Bool → Gp → Prop} {Ra : List D → Gp → Prop} {Rg : Sd → Gp → Prop} {E : DEnds} {i : Nat} {d : D} {ta tb tc : DE} {c c' : DT} {tr : DA} {r r' : DR2} {r1 : DR1} {s t u : DS} {g : DG} {ti : DI} {mk : Bool} {rn : DRn} {sp : DSp}
theorem x_var : dVar i σ G R = slo σ[i]? fun d => R d G := rfl
theorem x_c : dC d σ G R = R d G := rfl
theorem x_op : dOp r ta tb σ G R = ta σ G fun x G1 => tb σ G1 fun y G2 => r x y G2 R := rfl
theorem x_un : dUn r1 ta σ G R = ta σ G fun x G1 => r1 x G1 R := rfl
theorem x_b : dB ta σ G Rb = ta σ G fun x G1 => isB x fun b => Rb b G1 := rfl
theorem x_and : dAnd c c' σ G Rb = c σ G fun b G1 => br b (c' σ G1 Rb) (Rb false G1) := rfl
theorem x_or : dOr c c' σ G Rb = c σ G fun b G1 => br b (Rb true G1) (c' σ G1 Rb) := rfl
theorem x_not : dNot c σ G Rb = c σ G fun b G1 => Rb (!b) G1 := rfl
def isBB (x : D) (A B : Prop) : Prop := match x with | .bl true => A | .bl false => B | _ => False
theorem isBB_bl {b : Bool} {A B : Prop} : isBB (.bl b) A B = br b A B := by cases b <;> rfl
theorem x_chain : dChain r r' ta tb tc σ G R = ta σ G fun x G1 => tb σ G1 fun y G2 => r x y G2 fun z G3 => isBB z (tc σ G3 fun w G4 => r' y w G4 R) (R (.bl false) G3) := rfl
theorem x_andV : dAndV ta tb σ G R = ta σ G fun x G1 => isBB x (tb σ G1 R) (R (.bl false) G1) := rfl
theorem x_orV : dOrV ta tb σ G R = ta σ G fun x G1 => isBB x (R (.bl true) G1) (tb σ G1 R) := rfl
theorem x_notV : dNotV ta σ G R = ta σ G fun x G1 => isB x fun b => R (.bl (!b)) G1 := rfl
theorem x_if : dIf c ta tb σ G R = c σ G fun b G1 => br b (ta σ G1 R) (tb σ G1 R) := rfl
theorem x_nil : dNil σ G Ra = Ra [] G := rfl
theorem x_cons : dCons ta tr σ G Ra = ta σ G fun x G1 => tr σ G1 fun xs G2 => Ra (x :: xs) G2 := rfl
theorem x_tup : dTup tr σ G R = tr σ G fun ds G1 => ds.length ≤ sizeLine ∧ R (.tup ds) G1 := rfl
theorem x_lst0 : dLst false tr σ G R = tr σ G fun ds G1 => ds.length ≤ sizeLine ∧ R (.lst ds) G1 := rfl
theorem x_lst1 : dLst true tr σ G R = tr σ G fun ds G1 => ds.length ≤ sizeLine ∧ ∀ p, G1 p = none → R (.ref p) (gup G1 p (.lst ds)) := rfl
theorem x_callB : dCallB rn tr σ G R = tr σ G fun ds G1 => rn ds G1 R := rfl
theorem x_call : dCall sp tr σ G R = tr σ G fun ds G1 => sp ds G1 R := rfl
theorem x_callK {f : List D → List D} {n : Nat} : dCallK sp f n tr σ G R = tr σ G fun ds G1 => ds.length = n ∧ sp (f ds) G1 R := rfl
theorem x_next : dNext E σ G = E.nx σ G := rfl
theorem x_seq : dSeq t u E σ G = t { E with nx := Kont (u E) } σ G := rfl
theorem x_break : dBreak E σ G = E.bk σ G := rfl
theorem x_cont : dCont E σ G = E.ct σ G := rfl
theorem x_drop : dDrop ta E σ G = ta σ G fun _ G1 => E.nx σ G1 := rfl
/-- what is told, with what is still known: Wk -/
def Rt (R : DK) (d : D) (G : Gp) : Prop := ∃ d' G', Wk G d d' G' ∧ R d' G'
theorem rt_same {R : DK} {d : D} {G : Gp} (h : R d G) : Rt R d G := ret_same h
theorem x_ret : dRet ta E σ G = ta σ G fun d G1 => Rt E.rt d G1 := rfl
theorem x_ifS : dIfS c t u E σ G = c σ G fun b G1 => br b (t E σ G1) (u E σ G1) := rfl
theorem x_asg : dAsg ta g E σ G = ta σ G fun x G1 => g x σ G1 E.nx := rfl
theorem x_name : dName i d σ G Rg = Rg (σ.set i (some d)) G := rfl
theorem x_names {is : List Nat} {ds : List D} : dNames is (.tup ds) σ G Rg = (ds.length = is.length ∧ Rg (setAll σ is ds) G) := rfl
theorem x_sub {rs : DSet} : dSub ta tb rs d σ G Rg = ta σ G fun o G1 => tb σ G1 fun i G2 => rs o i d G2 fun G3 => Rg σ G3 := rfl
theorem x_aug : dAug i ta r E σ G = slo σ[i]? fun x => ta σ G fun y G1 => r x y G1 fun z G2 => E.nx (σ.set i (some z)) G2 := rfl
theorem x_augS {rs : DSet} : dAugS ta tb tc r r' rs E σ G = ta σ G fun o G1 => tb σ G1 fun i G2 => r o i G2 fun x G3 => tc σ G3 fun y G4 => r' x y G4 fun z G5 => rs o i z G5 fun G6 => E.nx σ G6 := rfl
theorem x_for : dFor ti g t E σ G = ti σ G fun xs gd G1 => dForGo g t gd E xs σ G1 := rfl
theorem x_lc0 {ws : List Nat} : dLc false ti g c tb ws σ G R = ti σ G fun xs gd G1 => xs.length ≤ sizeLine ∧ dLcGo g c tb gd (wipeD σ ws) xs [] G1 fun ds G2 => R (.lst ds) G2 := rfl
theorem x_lc1 {ws : List Nat} : dLc true ti g c tb ws σ G R = ti σ G fun xs gd G1 => xs.length ≤ sizeLine ∧ dLcGo g c tb gd (wipeD σ ws) xs [] G1 fun ds G2 => ∀ p, G2 p = none → R (.ref p) (gup G2 p (.lst ds)) := rfl
theorem x_yes : dYes σ G Rb = Rb true G := rfl
theorem x_noPart {Ro : Option Int → Gp → Prop} : dNoPart σ G Ro = Ro none G := rfl
theorem x_part {Ro : Option Int → Gp → Prop} : dPart ta σ G Ro = ta σ G fun x G1 => isI x fun i => Ro (some i) G1 := rfl
theorem x_slice {tl th : DO} : dSlice mk ta tl th σ G R = ta σ G fun x G1 => tl σ G1 fun l G2 => th σ G2 fun u G3 => dSl mk x l u G3 R := rfl
abbrev DIk := List D → (Gp → Prop) → Gp → Prop
/-- what is gone through: lists that nobody changes, texts, known lists -/
def itD (x : D) (G1 : Gp) (R : DIk) : Prop := match x with
  | .tup ds => R ds (fun _ => True) G1
  | .nt zs => R (zs.map .str) (fun _ => True) G1
  | .lst ds => R ds (fun _ => True) G1
  | .str z => R (signsD z) (fun _ => True) G1
  | .ref a => match G1 a with | some (.lst ds) => R ds (fun G => G a = some (.lst ds)) G1 | _ => False
  | _ => False
variable {Ri : DIk}
theorem x_iter : dIter ta σ G Ri = ta σ G fun x G1 => itD x G1 Ri := rfl
theorem it_t {ds : List D} : itD (.tup ds) G Ri = Ri ds (fun _ => True) G := rfl
theorem it_n {zs : List Str} : itD (.nt zs) G Ri = Ri (zs.map .str) (fun _ => True) G := rfl
theorem it_l {ds : List D} : itD (.lst ds) G Ri = Ri ds (fun _ => True) G := rfl
theorem it_s {z : Str} : itD (.str z) G Ri = Ri (signsD z) (fun _ => True) G := rfl
/-- a list that is known, by what it holds -/
def atL (o : Option GO) (k : List D → Prop) : Prop := match o with | some (.lst ds) => k ds | _ => False
theorem atL_lst {ds : List D} {k : List D → Prop} : atL (some (.lst ds)) k = k ds := rfl
theorem it_r {a : Addr} : itD (.ref a) G Ri = atL (G a) fun ds => Ri ds (fun G => G a = some (.lst ds)) G := rfl
theorem x_rng1 : dRng1 tr σ G Ri = tr σ G fun ds G1 => match ds with | [.int j] => -(2 ^ 62) ≤ j ∧ j < 2 ^ 62 ∧ Ri (rng 0 j.toNat) (fun _ => True) G1 | _ => False := rfl
theorem x_enum : dEnum tr σ G Ri = tr σ G fun ds G1 => match ds with
  | [.lst xs] => Ri (enumD 0 xs) (fun _ => True) G1
  | [.ref a] => (match G1 a with | some (.lst xs) => Ri (enumD 0 xs) (fun G => G a = some (.lst xs)) G1 | _ => False)
  | _ => False := rfl
theorem x_rev : dRev mk ta σ G R = ta σ G fun x G1 => match x with
  | .tup ds => R (.tup ds.reverse) G1
  | x => match lstOf G1 x with | some ds => newL mk ds.reverse G1 R | none => False := rfl
theorem x_m {T : String} {r : D → List D → Gp → DK → Prop} : dM T r ta tr σ G R = ta σ G fun x G1 => mty G1 x = some T ∧ tr σ G1 fun ds G2 => r x ds G2 R := rfl
theorem x_m0 {T : String} {r : D → List D → Gp → DK → Prop} : dM0 T r ta σ G R = ta σ G fun x G1 => mty G1 x = some T ∧ r x [] G1 R := rfl
theorem x_zip : dZipM tr σ G Ri = tr σ G fun ds G1 => match ds with
  | [x, y] => (match srcD G1 x, srcD G1 y with | some (_, xs, g1), some (_, ys, g2) => Ri (zipD xs ys) (fun G => g1 G ∧ g2 G) G1 | _, _ => False)
  | _ => False := rfl
theorem x_star_t {n j : Nat} {is : List Nat} {ds : List D} : dStar n j is (.tup ds) σ G Rg = (n ≤ ds.length + 1 ∧ Rg (setAll σ is (starD n j ds)) G) := rfl
theorem x_star_l {n j : Nat} {is : List Nat} {ds : List D} : dStar n j is (.lst ds) σ G Rg = (n ≤ ds.length + 1 ∧ Rg (setAll σ is (starD n j ds)) G) := rfl
theorem x_lenSet : dLenSet ta σ G R = ta σ G fun x G1 => match (seqOf G1 x).bind keysD with | some ks => ks.length + 1 < scanBound ∧ R (.int (uniq ks).length) G1 | none => False := rfl
theorem x_while : dWhile c t E σ G = ∃ n, dWhN c t E n σ G := rfl
theorem x_forgo0 {gd : Gp → Prop} : dForGo g t gd E [] σ G = (gd G ∧ E.nx σ G) := rfl
theorem x_lcgo0 {gd : Gp → Prop} {acc : List D} {Q : List D → Gp → Prop} : dLcGo g c ta gd σ [] acc G Q = (gd G ∧ Q acc G) := rfl
/-- things at places -/
theorem ix_t {as : List D} {i : Int} : dIx (.tup as) (.int i) G R = isN (atI as i) fun d => R d G := rfl
theorem ix_l {as : List D} {i : Int} : dIx (.lst as) (.int i) G R = isN (atI as i) fun d => R d G := rfl
theorem ix_r {a : Addr} {i : Int} : dIx (.ref a) (.int i) G R = atL (G a) fun ds => isN (atI ds i) fun d => R d G := by
  cases e : G a with
  | none => simp only [dIx, seqOf, lstOf, atL, e]
  | some o =>
    cases o with
    | lst ds => simp only [dIx, seqOf, lstOf, atL, isN, e] <;> rfl
    | _ => simp only [dIx, seqOf, lstOf, atL, e]
end
theorem at_0 {α : Type} {a : α} {xs : List α} : atI (a :: xs) 0 = some a := atI_nat (xs := a :: xs) (j := 0) (v := a) rfl
theorem at_1 {α : Type} {a b : α} {xs : List α} : atI (a :: b :: xs) 1 = some b := atI_nat (xs := a :: b :: xs) (j := 1) (v := b) rfl
theorem at_2 {α : Type} {a b c : α} {xs : List α} : atI (a :: b :: c :: xs) 2 = some c := atI_nat (xs := a :: b :: c :: xs) (j := 2) (v := c) rfl
theorem at_3 {α : Type} {a b c d : α} {xs : List α} : atI (a :: b :: c :: d :: xs) 3 = some d := atI_nat (xs := a :: b :: c :: d :: xs) (j := 3) (v := d) rfl
theorem at_4 {α : Type} {a b c d e : α} {xs : List α} : atI (a :: b :: c :: d :: e :: xs) 4 = some e := atI_nat (xs := a :: b :: c :: d :: e :: xs) (j := 4) (v := e) rfl
theorem at_5 {α : Type} {a b c d e f : α} {xs : List α} : atI (a :: b :: c :: d :: e :: f :: xs) 5 = some f := atI_nat (xs := a :: b :: c :: d :: e :: f :: xs) (j := 5) (v := f) rfl
end DL

set_option Elab.async false
set_option linter.all false
set_option maxRecDepth 100000
set_option maxHeartbeats 4000000
set_option autoImplicit false
namespace DL
open PySem PySem.Spec PyProof.Rows L2
/-! ### sorted(xs, key=f), f a def -/
section
variable {prog : Program} {w : World} {A : Around} {E : Value → Shared → Prop} {s : Shared} {a kS : Addr} {vs : List Value} {keys : Array Value} {e e1 : Nat} {P : PySem.Fin → Shared → Prop}
end
section
variable {X : Cx} {f : Addr} {fd : FuncData} {pr : Str} {sp : Sp} {k : Nat}
end
end DL

set_option Elab.async false
set_option linter.all false
set_option maxRecDepth 100000
set_option maxHeartbeats 4000000
set_option autoImplicit false
namespace DL
open PySem PySem.Spec PyProof.Rows L2
/-! ### sorted(xs, key=f), by data: keys that are a number and a text -/
def ltK (a b : Int × Str) : Bool := decide (a.1 < b.1) || (decide (a.1 = b.1) && sLt a.2 b.2)
def leK (a b : Int × Str) : Bool := !ltK b a
def keyP : D → Option (Int × Str)
  | .tup [.int i, .str x] => some (i, x)
  | _ => none
def keysP : List D → Option (List (Int × Str))
  | [] => some []
  | d :: ds => match keyP d, keysP ds with | some k, some ks => some (k :: ks) | _, _ => none
def pyK (k : Int × Str) : PyData := .tuple [.int k.1, .str k.2]
theorem lex_pyK (a b : Int × Str) : PyProof.Rows.lexLt itemOrd (PySem.W.keyToks (pyK a)) (PySem.W.keyToks (pyK b)) = ltK a b := by
  obtain ⟨i, x⟩ := a
  obtain ⟨j, y⟩ := b
  have e : PyProof.Rows.lexLt itemOrd (PySem.W.keyToks (pyK (i, x))) (PySem.W.keyToks (pyK (j, y))) = (decide ((1:Int) < 1) || (!decide ((1:Int) < 1) && (decide (i < j) || (!decide (j < i) && (decide ((1:Int) < 1) || (!decide ((1:Int) < 1) && (decide (x.cps.toList < y.cps.toList) || (!decide (y.cps.toList < x.cps.toList) && (decide ((0:Int) < 0) || (!decide ((0:Int) < 0) && false)))))))))) := rfl
  rw [e]
  simp only [ltK, sLt]
  by_cases h1 : i < j
  · simp [h1]
  · by_cases h2 : i = j
    · subst h2
      simp
    · have : j < i := by omega
      simp [h1, h2, this]
def sortK {α : Type} (xs : List α) (kz : List (Int × Str)) : List α := ((xs.zip kz).mergeSort fun p q => leK p.2 q.2).map (·.1)
def dKeys (sp : DSp) : List D → List D → Gp → (List D → Gp → Prop) → Prop
  | [], ks, G, Q => Q ks G
  | x :: xs, ks, G, Q => sp [x] G (fun k G1 => dKeys sp xs (ks ++ [k]) G1 Q)
def dSortK1 (mk : Bool) (sp : DSp) (x : D) (G1 : Gp) (R : DK) : Prop := match seqOf G1 x with
  | some ds => dKeys sp ds [] G1 fun ks G2 => (match keysP ks with | some kz => ks.length = ds.length ∧ newL mk (sortK ds kz) G2 R | none => False)
  | none => False
def dSortK (mk : Bool) (sp : DSp) (te : DE) : DE := fun σ G R => te σ G fun x G1 => dSortK1 mk sp x G1 R
end DL

set_option Elab.async false
set_option linter.all false
set_option maxRecDepth 100000
set_option maxHeartbeats 4000000
set_option autoImplicit false
namespace DL
open PySem PySem.Spec PyProof.Rows L2
/-! ### methods, of tuples of texts too -/
theorem room100 {k : Nat} {A : Around} (r : Room k A) : A.units + 100 < cLine := by have := r.un; omega
section
variable {X : Cx}
def tyW (K : PySem.W.Frag) (T : String) (x : V) (H : Hp) : Prop := tyV K T x H ∨ (T = "tuple" ∧ ∃ p zs, x = .ref p ∧ NtAt K H p zs)
theorem tyW_is {pins : List (Addr × Obj)} {σ : L2.St} {H : Hp} {s : Shared} {T : String} {x : V} {v : Value} (I : L2.Inv X pins σ H s) (r : RelV x v) (ty : tyW X.K T x H) :
    s.TypeIs v T ∧ ∀ a, v = .ref a → ∃ ob, s.heap.get? a = some ob ∧ ob.dict = none := by
  rcases ty with ty | ⟨rfl, p, zs, rfl, h⟩
  · exact tyV_is I r ty
  · cases r
    rcases h with ⟨o, h, hc, hd⟩ | ⟨o, its, n, h, hc, hd, _⟩
    · have ho := (I.hok p _ h).1
      exact ⟨⟨o, ho, hc⟩, fun a e => by cases e; exact ⟨o, ho, hd⟩⟩
    · have ho := I.kIn p o h
      exact ⟨⟨o, ho, hc⟩, fun a e => by cases e; exact ⟨o, ho, hd⟩⟩
def mtyX (G : Gp) : D → Option String
  | .nt _ => some "tuple"
  | d => mty G d
theorem tyW_of {K : PySem.W.Frag} {H : Hp} {N : Ns} {G : Gp} {d : D} {v : V} {T : String} (rg : RelG K H N G) (rd : RD K H N d v) (h : mtyX G d = some T) : tyW K T v H := by
  unfold mtyX at h
  split at h
  · cases h
    obtain ⟨p, rfl, s⟩ := rd.of_nt
    exact .inr ⟨rfl, p, _, rfl, s⟩
  · exact .inl (tyV_of rg rd h)
variable {o e : Expr} {es : List Expr} {to : DE} {t : DA} {name : Str} {apos cpos : Pos} {T id : String} {r : D → List D → Gp → DK → Prop}
def dMX (T : String) (r : D → List D → Gp → DK → Prop) (to : DE) (t : DA) : DE := fun σ G R => to σ G fun x G1 => mtyX G1 x = some T ∧ t σ G1 fun xs G2 => r x xs G2 R
theorem qe_mX (pa : PlainAttrs T) (slot : Slot T name id) (hty : typeOf (.builtin id) = pure (.type "method_descriptor")) (hm : MtD X id r) (ho : QE X o to) (ha : QA X (e :: es) t)
    (hbase : attributeBase o name X.env (eval o X.env) = eval o X.env := by rfl)
    (hfew : ((backTo cpos (starEach (e :: es) X.env)).all (fun x => !x.1) && (backToKw cpos (keywordEach [] X.env)).all (fun x => x.1.isSome)
      && decide ((e :: es).length + ([] : List Keyword).length + (if ([] : List Keyword).isEmpty then 0 else 1) < 30)) = true := by rfl)
    (hline : (apos.endLine == cpos.line) = true := by rfl) (hs : starEach (e :: es) X.env = (false, eval e X.env) :: starEach es X.env := by rfl) (hplain : (backTo cpos (starEach es X.env)).any (·.1) = false := by rfl) :
    QE X (.Call (.Attribute o name apos) (e :: es) [] cpos) (dMX T r to t) := by
  refine ⟨fun pins s τ H Q I h => ?_⟩
  obtain ⟨σ, G, N, R, hst, hg, ht, q⟩ := h
  refine wpAny_Call_method_late hbase hfew hline rfl (thn (ho.run pins s τ H (fun v H1 => ∃ d G1 N1, Stp X.K H N G H1 N1 G1 ∧ RD X.K H1 N1 d v ∧ mtyX G1 d = some T ∧ t σ G1 fun xs G2 => r d xs G2 R) I ⟨σ, G, N, _, hst, hg, ht, fun d G1 N1 v1 H1 h1 s1 r1 => ⟨d, G1, N1, s1, r1, h1⟩⟩) fun v s1 ⟨x, H1, I1, r1, d, G1, N1, st1, rd1, ty, q1⟩ => ?_)
  obtain ⟨h1, h2⟩ := tyW_is I1 r1 (tyW_of st1.rel rd1 ty)
  refine ⟨T, id, pa, slot, hty, h1, h2, ?_⟩
  have hA := ha.run cpos pins s1 τ H1 (fun vs H2 => upM X.K r x vs H2 Q) I1 ⟨σ, G1, N1, _, hst.le st1.kp, st1.rel, q1, fun xs G2 N2 vs H2 h3 s2 r2 => ⟨d, xs, G2, N2, R, rd1.le s2.kp, r2, s2.rel, h3, q.le (st1.trans s2)⟩⟩
  rw [hs] at hA ⊢
  refine Calls.callWith_builtin (by show (false || (backTo cpos (starEach es X.env)).any (·.1)) = false; rw [hplain] <;> rfl) (Calls.evalArgs_plain ?_)
  exact thn hA fun us s2 ⟨vs, H2, I2, r2, q2⟩ => hm pins s2 τ H2 x vs v us Q I2 r1 r2 q2
end
section
variable {X : Cx}
/-! ### in, of data -/
/-! ### the order of data -/
def dCmpE (pi : Int → Int → Bool) (ps : Str → Str → Bool) (pk : Bool → Bool → Bool) : DR2 := fun x y G R => match x, y with
  | .int i, .int j => R (.bl (pi i j)) G
  | .str a, .str b => R (.bl (ps a b)) G
  | x, y => match toPy x, toPy y with | some a, some b => PySem.W.alike a b = true ∧ a ≠ .none ∧ a.depth ≤ 60 ∧ R (.bl (pk (PySem.W.dataLt a b) (PySem.W.dataLt b a))) G | _, _ => False
theorem cmpE_of {f : Value → Value → Sem Value} {pi : Int → Int → Bool} {ps : Str → Str → Bool} {pk : Bool → Bool → Bool} (hu : X.A.units + 100 < cLine) (h1 : OpD X f (dOrd pi ps))
    (h2 : ∀ {s : Shared} {a b : Value} {da db : PyData} {as bs : List Addr} {Q : Value → Shared → Prop}, Reads s.heap a da as → Reads s.heap b db bs → PySem.W.alike da db = true → da ≠ .none → X.A.units + min da.depth db.depth < cLine → Q (.bool (pk (PySem.W.dataLt da db) (PySem.W.dataLt db da))) s → wpAny (model X.prog X.w) X.A (f a b) Q X.xe s) : OpD X f (dCmpE pi ps pk) := by
  have h3 : OpR X f (upR2 X.K fun x y G R => match toPy x, toPy y with | some a, some b => PySem.W.alike a b = true ∧ a ≠ .none ∧ a.depth ≤ 60 ∧ R (.bl (pk (PySem.W.dataLt a b) (PySem.W.dataLt b a))) G | _, _ => False) := by
    intro pins s σ H x y v u Q I rx ry h
    obtain ⟨c, d, G, N, R, r1, r2, rg, h, q⟩ := h
    split at h
    · rename_i a b ea eb
      obtain ⟨h4, h5, h6, h7⟩ := h
      obtain ⟨_, rx'⟩ := Dp.reads I a x v (toPy_ok r1 ea) rx
      obtain ⟨_, ry'⟩ := Dp.reads I b y u (toPy_ok r2 eb) ry
      exact h2 rx' ry' h4 h5 (by have := Nat.min_le_left a.depth b.depth; omega) ⟨.bl _, H, I, rfl, q.at rg h7 (RD.bl _)⟩
    · exact h.elim
  exact opr_mono (OpR.or h1 h3) fun x y H Q h => by
    obtain ⟨c, d, G, N, R, r1, r2, rg, h, q⟩ := h
    unfold dCmpE at h
    split at h
    · exact .inl ⟨_, _, G, N, R, r1, r2, rg, h, q⟩
    · exact .inl ⟨_, _, G, N, R, r1, r2, rg, h, q⟩
    · exact .inr ⟨c, d, G, N, R, r1, r2, rg, h, q⟩
def dLtE : DR2 := dCmpE (fun i j => decide (i < j)) (fun a b => sLt a b) fun l _ => l
theorem od_ltE (hu : X.A.units + 100 < cLine) : OpD X (compareOp .Lt) dLtE := cmpE_of hu od_lt fun a b c d e h => PySem.W.lt_data a b c d e h
theorem ltE_key {i j : Int} {x y : Str} {G : Gp} {R : DK} : dLtE (.tup [.int i, .str x]) (.tup [.int j, .str y]) G R = R (.bl (ltK (i, x) (j, y))) G := by
  have e := lex_pyK (i, x) (j, y)
  show (PySem.W.alike _ _ = true ∧ _ ∧ _ ∧ R (.bl (PySem.W.dataLt (pyK (i, x)) (pyK (j, y)))) G) = _
  rw [show PySem.W.dataLt (pyK (i, x)) (pyK (j, y)) = ltK (i, x) (j, y) from e]
  refine propext ⟨fun h => h.2.2.2, fun h => ⟨rfl, by simp, ?_, h⟩⟩
  simp only [pyK, PyData.depth, PyData.depthAll]
  omega
theorem ltE_ii {i j : Int} {G : Gp} {R : DK} : dLtE (.int i) (.int j) G R = R (.bl (decide (i < j))) G := rfl
theorem ltE_ss {i j : Str} {G : Gp} {R : DK} : dLtE (.str i) (.str j) G R = R (.bl (sLt i j)) G := rfl
/-! ### count, index, remove .. -/
/-- the first place of a thing -/
def dIndexT : D → List D → Gp → DK → Prop := fun x xs G R => match x, xs with
  | .nt zs, [.str z] => z ∈ zs ∧ R (.int (zs.idxOf z : Nat)) G
  | _, _ => False
theorem md_indexT : MtD X "tuple.index" dIndexT := md_of mt_tup_index fun c cs G N R x xs H Q r0 r1 rg h q => by
  unfold dIndexT at h
  split at h
  · rename_i zs z
    obtain ⟨p, rfl, s⟩ := r0.of_nt
    obtain ⟨vy, r, rfl, r3, r4⟩ := r1.of_cons
    obtain rfl := r4.of_nil
    obtain rfl := r3.of_str
    have hl := List.idxOf_lt_length_of_mem h.1
    refine ⟨p, zs, z, zs.idxOf z, rfl, rfl, s.sq, ?_, fun m hm e => ?_, q.at rg h.2 (RD.int _)⟩
    · rw [List.getElem?_eq_getElem hl, List.getElem_idxOf hl]
    · have hml : m < zs.length := by omega
      rw [List.getElem?_eq_getElem hml] at e
      have e' := Option.some.inj e
      have := List.not_of_lt_findIdx (p := fun y => y == z) (xs := zs) (i := m) hm
      rw [e'] at this
      simp at this
  · exact h.elim
end
end DL

set_option Elab.async false
set_option linter.all false
set_option maxRecDepth 100000
set_option maxHeartbeats 4000000
set_option autoImplicit false
namespace DL
open PySem PySem.Spec PyProof.Rows L2
section
variable {X : Cx}
/-! ### what changes lists -/
theorem UpQ.wr {K : PySem.W.Frag} {H : Hp} {N : Ns} {G : Gp} {R : DK} {Q : VK} (q : UpQ K H N G R Q) (rg : RelG K H N G) {a : Addr} {ds es : List D} {vs us : List V} {d : D} {v : V} (e : G a = some (.lst ds)) (hv : H a = some (.lst vs)) (rd : RDs K H N es us) (rv : RD K H N d v) (h : R d (gup G a (.lst es))) : Q v (upd H a (.lst us)) := by
  have kw := Kp.write (u := .lst us) (rg a _ e).1 hv rfl rfl
  exact q _ _ N _ _ h (Stp.write (u := .lst us) rg e hv rfl rfl ⟨_, upd_same, rd.le kw⟩) (rv.le kw)
def dPopAt : D → List D → Gp → DK → Prop := fun x xs G R => match x, xs with
  | .ref a, [.int i] => atL (G a) fun ds => 0 ≤ i ∧ i < 2 ^ 62 ∧ isN ds[i.toNat]? fun d => R d (gup G a (.lst (ds.eraseIdx i.toNat)))
  | _, _ => False
theorem md_popAt : MtD X "list.pop" dPopAt := md_of (rv := rPopAt) (fun pins s σ H x xs v us Q I rx rxs q => mt_popAt pins s σ H x xs v us Q I rx rxs q) fun c cs G N R x xs H Q r0 r1 rg h q => by
  unfold dPopAt at h
  split at h
  · rename_i a i
    obtain rfl := r0.of_ref
    obtain ⟨v, r, rfl, rv, rr⟩ := r1.of_cons
    rw [rr.of_nil, rv.of_int]
    unfold atL at h
    split at h
    · rename_i ds e
      obtain ⟨h1, h2, h⟩ := h
      unfold isN at h
      split at h
      · rename_i d ed
        obtain ⟨_, vs, hv, rd⟩ := rg a _ e
        obtain ⟨v, hvg, rv⟩ := rd.get ed
        have hl := (List.getElem?_eq_some_iff.mp hvg).1
        refine ⟨a, vs, i, i.toNat, v, rfl, rfl, hv, by omega, by omega, ?_, hvg, q.wr rg e hv (rd.eraseIdx _) rv h⟩
        unfold seqIndex?
        first
          | (simp; omega)
          | (split <;> simp_all <;> omega)
      · exact h.elim
    · exact h.elim
  · exact h.elim
/-! ### a new tuple of texts -/
/-! ### a def in a local name, one of several -/
variable {x : Str} {i k : Nat} {e : Expr} {es : List Expr} {t : DA} {p pos : Pos}
def dCallA (i : Nat) (S : Addr → Option DSp) (t : DA) : DE := fun σ G R => match σ[i]? with | some (some (.ref f)) => (match S f with | some sp => t σ G fun ds G1 => sp ds G1 R | none => False) | _ => False
theorem qe_callA {S : Addr → Option DSp} (A : ∀ f sp, S f = some sp → Held X.prog X.w X.K X.mg X.base k f (upSp X.K sp)) (hr : Room k X.A) (hN : X.N[i]? = some x) (hv : Vis X.env.scope x) (ha : QA X (e :: es) t)
    (hdb : (x == ("__debug__" : Str)) = false := by decide) (hcd : (x == ("__classdict__" : Str)) = false := by decide)
    (he : starEach (e :: es) X.env = (false, eval e X.env) :: starEach es X.env := by rfl) (hpl : (backTo pos (starEach es X.env)).any (·.1) = false := by rfl) : QE X (.Call (.Name x p) (e :: es) [] pos) (dCallA i S t) := by
  refine pe_mono (pe_callA (S := fun f => (S f).map (upSp X.K)) (fun f sp h => ?_) hr hN hv ha hdb hcd he hpl) fun τ H Q h => ?_
  · cases es : S f with
    | none => rw [es] at h; cases h
    | some sp' => rw [es] at h; cases h; exact A f sp' es
  · obtain ⟨σ, G, N, R, hs, hg, ht, q⟩ := h
    unfold dCallA at ht
    split at ht
    · rename_i f e
      obtain ⟨v, h1, h2⟩ := hs.2 i _ e
      obtain rfl := h2.of_ref
      split at ht
      · rename_i sp es
        refine ⟨f, upSp X.K sp, h1, by simp only [es, Option.map_some], σ, G, N, _, hs, hg, ht, fun ds G1 N1 vs H1 h3 s1 r1 => ?_⟩
        exact ⟨ds, G1, N1, R, r1, s1.rel, h3, q.le s1⟩
      · exact ht.elim
    · exact ht.elim
end
end DL

set_option Elab.async false
set_option linter.all false
set_option maxRecDepth 100000
set_option maxHeartbeats 4000000
set_option autoImplicit false
namespace DL
open PySem PySem.Spec PyProof.Rows L2
section
variable {σ : Sd} {G : Gp} {R : DK} {ta : DE} {tr : DA}
theorem x_mX {T : String} {r : D → List D → Gp → DK → Prop} : dMX T r ta tr σ G R = ta σ G fun x G1 => mtyX G1 x = some T ∧ tr σ G1 fun ds G2 => r x ds G2 R := rfl
theorem ix_n {zs : List Str} {i : Int} : dIx (.nt zs) (.int i) G R = isN (atI (zs.map .str) i) fun d => R d G := rfl
theorem x_sortK {mk : Bool} {sp : DSp} : dSortK mk sp ta σ G R = ta σ G fun x G1 => dSortK1 mk sp x G1 R := rfl
theorem len_nt {zs : List Str} : dLen [.nt zs] G R = R (.int zs.length) G := by
  show R (.int (zs.map D.str).length) G = _
  rw [List.length_map]
theorem app_r {a : Addr} {y : D} : dAppend (.ref a) [y] G R = atL (G a) fun ds => ds.length < sizeLine ∧ R .non (gup G a (.lst (ds ++ [y]))) := rfl
theorem int_b {b : Bool} : dInt [.bl b] G R = R (.int (if b then 1 else 0)) G := rfl
theorem int_i {i : Int} : dInt [.int i] G R = R (.int i) G := rfl
theorem strI_i {i : Int} : dStrI [.int i] G R = (i.natAbs.log2 < 1920 ∧ R (.str (toString i)) G) := rfl
def dStrX : DRn := fun cs G R => match cs with | [.str z] => R (.str z) G | cs => dStrI cs G R
theorem strX_i {i : Int} : dStrX [.int i] G R = (i.natAbs.log2 < 1920 ∧ R (.str (toString i)) G) := rfl
theorem strX_s {z : Str} : dStrX [.str z] G R = R (.str z) G := rfl
theorem log_small {k : Nat} (h : k ≤ 100000) : ((k : Int).natAbs).log2 < 1920 := by
  rw [Int.natAbs_natCast]
  by_cases e : k = 0
  · subst e; decide
  · have h1 : k < 2 ^ 1920 := Nat.lt_of_le_of_lt h (by decide +kernel)
    exact (Nat.log2_lt e).mpr h1
end
theorem ofString_inj {a b : String} : (Str.ofString a = Str.ofString b) = (a = b) := by
  refine propext ⟨fun h => ?_, fun h => by rw [h]⟩
  rw [Str.ofString_eq_toList, Str.ofString_eq_toList] at h
  have h1 : a.toList.map Char.toNat = b.toList.map Char.toNat := congrArg (fun s : Str => s.cps.toList) h
  have inj : ∀ l m : List Char, l.map Char.toNat = m.map Char.toNat → l = m := by
    intro l
    induction l with
    | nil => intro m e; cases m <;> simp_all
    | cons c l ih =>
      intro m e
      cases m with
      | nil => simp at e
      | cons d m =>
        simp only [List.map_cons, List.cons.injEq] at e
        have : c = d := Char.toNat_inj.mp e.1
        rw [this, ih m e.2]
  exact String.toList_inj.mp (inj _ _ h1)
theorem len_lit {a : String} : (Str.ofString a).length = a.length := by
  rw [Str.ofString_eq_toList]
  unfold Str.length
  simp [String.length_toList]
theorem len_app (a b : Str) : (a ++ b).length = a.length + b.length := by
  rw [← cds_len, ← cds_len, ← cds_len, cds_app, List.length_append]
theorem lc_cons {g : DG} {c : DT} {ta : DE} {σ : Sd} {gd : Gp → Prop} {x : D} {xs acc : List D} {G : Gp} {Q : List D → Gp → Prop} (h : gd G ∧ g x σ G fun σ2 G2 => c σ2 G2 fun b G3 => br b (ta σ2 G3 fun y G4 => dLcGo g c ta gd σ xs (acc ++ [y]) G4 Q) (dLcGo g c ta gd σ xs acc G3 Q)) : dLcGo g c ta gd σ (x :: xs) acc G Q := h
theorem for_cons {g : DG} {t : DS} {gd : Gp → Prop} {E : DEnds} {x : D} {xs : List D} {σ : Sd} {G : Gp} (h : gd G ∧ g x σ G fun σ2 G2 => t { E with nx := Kont (dForGo g t gd E xs), ct := Kont (dForGo g t gd E xs), bk := E.nx } σ2 G2) : dForGo g t gd E (x :: xs) σ G := h
theorem join_l {sep : Str} {G : Gp} {R : DK} {ds : List D} {zs : List Str} (e : strsOf ds = some zs) : dJoin (.str sep) [.lst ds] G R = ((zs.map fun z : Str => z.length).sum + zs.length * sep.length ≤ 16777216 ∧ R (.str (Txt.join sep zs)) G) := by
  show (match (seqOf G (.lst ds)).bind strsOf with | some ys => (ys.map fun z : Str => z.length).sum + ys.length * sep.length ≤ 16777216 ∧ R (.str (Txt.join sep ys)) G | none => False) = _
  have : (seqOf G (.lst ds)).bind strsOf = some zs := e
  rw [this]
theorem join_go {sep : Str} {G : Gp} {R : DK} {ds : List D} {zs : List Str} (e : strsOf ds = some zs) (hl : (zs.map fun z : Str => z.length).sum + zs.length * sep.length ≤ 16777216) (h : R (.str (Txt.join sep zs)) G) : dJoin (.str sep) [.lst ds] G R := by
  rw [join_l e]; exact ⟨hl, h⟩
end DL

set_option Elab.async false
set_option linter.all false
set_option maxRecDepth 100000
set_option maxHeartbeats 4000000
set_option autoImplicit false
namespace DL
open PySem PySem.Spec PyProof.Rows L2
section
variable {X : Cx}
/-! ### isinstance(x, (a, b)) -/
def dIsiX : DRn := fun cs G R => match cs with
  | [x, .tup [.ty m, .ty n]] => m ∈ knownTy ∧ n ∈ knownTy ∧ (match tyD G x with | some t => R (.bl (isTy t m || isTy t n)) G | none => False)
  | cs => dIsi cs G R
theorem cd_isiX : CallD X (.builtin "isinstance") dIsiX := by
  intro pins s σ H xs us Q I r h
  obtain ⟨cs, G, N, R, rd, rg, h, q⟩ := h
  unfold dIsiX at h
  split at h
  · rename_i x m n
    obtain ⟨hm, hn, h⟩ := h
    obtain ⟨v, r', rfl, r1, r2⟩ := rd.of_cons
    obtain ⟨v', r'', rfl, r3, r4⟩ := r2.of_cons
    obtain rfl := r4.of_nil
    split at h
    · rename_i t et
      obtain ⟨ty, mt⟩ := tyD_ok rg r1 et
      obtain ⟨u1, u2, rfl, ru1, ru2⟩ := vals2 r
      obtain ⟨tp, vs, rfl, sq, rvs⟩ := r3.of_tup
      cases (show u2 = Value.ref tp from ru2)
      obtain ⟨a1, r5, rfl, e1, r6⟩ := rvs.of_cons
      obtain ⟨a2, r7, rfl, e2, r8⟩ := r6.of_cons
      obtain rfl := r8.of_nil
      obtain rfl := e1.of_ty
      obtain rfl := e2.of_ty
      obtain ⟨P, Z, p, hx⟩ := kit_of I ru1 ty
      obtain ⟨its, rv, ⟨o, h1, h2, k, h3⟩, _⟩ := I.tuple sq
      have e3 := ClsV.all (.cons (.ty m) (.cons (.ty n) .nil)) rv
      subst e3
      obtain ⟨oc, od, dt, sl⟩ := o
      simp only at h2 h3
      subst h2 h3
      have k1 := kit_ty (K := X.K) (kits t mt m hm)
      have k2 := kit_ty (K := X.K) (kits t mt n hn)
      refine PySem.W.kia_tup Z I.kIn p h1 (b := isTy t m || isTy t n) ?_ hx fun tk => ⟨.bl _, H, I.tok tk, rfl, q.at rg h (RD.bl _)⟩
      simp only [PySem.W.kitAny, k1, k2]
      cases isTy t m <;> cases isTy t n <;> rfl
    · exact h.elim
  · exact cd_isi pins s σ H xs us Q I r ⟨cs, G, N, R, rd, rg, h, q⟩
variable {G : Gp} {R : DK} {n m : String} {i : Int} {z : Str} {b : Bool} {ds : List D} {zs : List Str} {p : Addr}
theorem isi_i : dIsiX [.int i, .ty n] G R = (n ∈ knownTy ∧ R (.bl (isTy "int" n)) G) := rfl
theorem isi_s : dIsiX [.str z, .ty n] G R = (n ∈ knownTy ∧ R (.bl (isTy "str" n)) G) := rfl
theorem isi_b : dIsiX [.bl b, .ty n] G R = (n ∈ knownTy ∧ R (.bl (isTy "bool" n)) G) := rfl
theorem isi_n : dIsiX [.non, .ty n] G R = (n ∈ knownTy ∧ R (.bl (isTy "NoneType" n)) G) := rfl
theorem isi_t : dIsiX [.tup ds, .ty n] G R = (n ∈ knownTy ∧ R (.bl (isTy "tuple" n)) G) := rfl
theorem isi_nt : dIsiX [.nt zs, .ty n] G R = (n ∈ knownTy ∧ R (.bl (isTy "tuple" n)) G) := rfl
theorem isi_l : dIsiX [.lst ds, .ty n] G R = (n ∈ knownTy ∧ R (.bl (isTy "list" n)) G) := rfl
theorem isi2_i : dIsiX [.int i, .tup [.ty m, .ty n]] G R = (m ∈ knownTy ∧ n ∈ knownTy ∧ R (.bl (isTy "int" m || isTy "int" n)) G) := rfl
theorem isi2_s : dIsiX [.str z, .tup [.ty m, .ty n]] G R = (m ∈ knownTy ∧ n ∈ knownTy ∧ R (.bl (isTy "str" m || isTy "str" n)) G) := rfl
theorem isi2_b : dIsiX [.bl b, .tup [.ty m, .ty n]] G R = (m ∈ knownTy ∧ n ∈ knownTy ∧ R (.bl (isTy "bool" m || isTy "bool" n)) G) := rfl
theorem isi2_n : dIsiX [.non, .tup [.ty m, .ty n]] G R = (m ∈ knownTy ∧ n ∈ knownTy ∧ R (.bl (isTy "NoneType" m || isTy "NoneType" n)) G) := rfl
theorem isi2_t : dIsiX [.tup ds, .tup [.ty m, .ty n]] G R = (m ∈ knownTy ∧ n ∈ knownTy ∧ R (.bl (isTy "tuple" m || isTy "tuple" n)) G) := rfl
theorem isi2_nt : dIsiX [.nt zs, .tup [.ty m, .ty n]] G R = (m ∈ knownTy ∧ n ∈ knownTy ∧ R (.bl (isTy "tuple" m || isTy "tuple" n)) G) := rfl
theorem isi2_l : dIsiX [.lst ds, .tup [.ty m, .ty n]] G R = (m ∈ knownTy ∧ n ∈ knownTy ∧ R (.bl (isTy "list" m || isTy "list" n)) G) := rfl
theorem kt1 : ("int" ∈ knownTy) = True := by decide
theorem kt2 : ("bool" ∈ knownTy) = True := by decide
theorem kt3 : ("str" ∈ knownTy) = True := by decide
theorem kt4 : ("tuple" ∈ knownTy) = True := by decide
theorem kt5 : ("list" ∈ knownTy) = True := by decide
theorem kt6 : ("dict" ∈ knownTy) = True := by decide
end
/-! ### slices by numbers -/
theorem cut1 {α : Type} {a : α} {xs : List α} : cutL (a :: xs) (some 1) none = xs := by
  unfold cutL; simp [HT.sIx]
theorem cut2 {α : Type} {a b : α} {xs : List α} : cutL (a :: b :: xs) (some 2) none = xs := by
  unfold cutL; simp [HT.sIx]
/-! ### local lists -/
section
variable {G : Gp} {R : DK} {p : Addr} {d : D} {o : GO} {ds : List D}
theorem rt_drop (hp : G p = none) (h : R d G) : Rt R d (gup G p o) := ret_sub (Sub.new hp) h
theorem mty_up : mty (gup G p (.lst ds)) (.ref p) = some "list" := by unfold mty; simp only [gup_same]
theorem mty_at (e : G p = some (.lst ds)) : mty G (.ref p) = some "list" := by unfold mty; simp only [e]
theorem rt_lst (hp : G p = none) (h : R (.lst ds) G) : Rt R (.ref p) (gup G p (.lst ds)) := ret_lst gup_same (Sub.new hp) hp h
theorem join_gor {sep : Str} {zs : List Str} (e : G p = some (.lst ds)) (e2 : strsOf ds = some zs) (hl : (zs.map fun z : Str => z.length).sum + zs.length * sep.length ≤ 16777216) (h : R (.str (Txt.join sep zs)) G) : dJoin (.str sep) [.ref p] G R := by
  have : (seqOf G (.ref p)).bind strsOf = some zs := by
    have e3 : seqOf G (.ref p) = some ds := by unfold seqOf lstOf; simp only [e]
    rw [e3]; exact e2
  show (match (seqOf G (.ref p)).bind strsOf with | some ys => (ys.map fun z : Str => z.length).sum + ys.length * sep.length ≤ 16777216 ∧ R (.str (Txt.join sep ys)) G | none => False)
  rw [this]
  exact ⟨hl, h⟩
end
end DL

set_option Elab.async false
set_option linter.all false
set_option maxRecDepth 100000
set_option maxHeartbeats 4000000
set_option autoImplicit false
namespace DL
open PySem PySem.Spec PyProof.Rows L2
/-! ### the order of keys -/
/-! ### choosing the first least one, again and again, sorts -/
section
variable {α : Type} {le : α → α → Bool} (tr : ∀ a b c, le a b = true → le b c = true → le a c = true) (to : ∀ a b, (le a b || le b a) = true)
include tr to in
end
end DL

set_option Elab.async false
set_option linter.all false
set_option maxRecDepth 100000
set_option maxHeartbeats 4000000
set_option autoImplicit false
namespace DL
open PySem PySem.Spec PyProof.Rows L2
section
variable {G : Gp} {R : DK} {p q s : Addr} {d : D} {o o' u : GO} {ds es : List D} {mk : Bool}
theorem fresh_ne (h : gup G s o p = none) : s ≠ p := fun z => by subst z; rw [gup_same] at h; cases h
theorem gup_swap (h : s ≠ p) : gup (gup (gup G s o) p u) s o' = gup (gup G s o') p u := by rw [gup_comm h, gup_gup, gup_comm h.symm]
theorem newL_t : newL true ds G R = ∀ p, G p = none → R (.ref p) (gup G p (.lst ds)) := rfl
theorem lstOf_r (e : G p = some (.lst ds)) : lstOf G (.ref p) = some ds := by unfold lstOf; simp only [e]
theorem seqOf_r (e : G p = some (.lst ds)) : seqOf G (.ref p) = some ds := by unfold seqOf; exact lstOf_r e
theorem tuple_r (e : G p = some (.lst ds)) : dTuple [.ref p] G R = R (.tup ds) G := by
  show (match seqOf G (.ref p) with | some ds => R (.tup ds) G | none => False) = _
  rw [seqOf_r e]
theorem sub_keep (h : s ≠ p) (hp : G p = none) : Sub (gup G s o) (gup (gup G p u) s o) := by
  rw [gup_comm h.symm]
  exact Sub.new (by rw [gup_ne h.symm]; exact hp)
end
end DL

set_option Elab.async false
set_option linter.all false
set_option maxRecDepth 100000
set_option maxHeartbeats 4000000
set_option autoImplicit false
namespace DL
open PySem PySem.Spec PyProof.Rows L2
/-! ### data that can be keys, nested: their hashes -/
mutual
def hasK : PyData → Bool
  | .int _ => true | .str _ => true | .bool _ => true
  | .tuple xs => hasKs xs
  | _ => false
def hasKs : List PyData → Bool
  | [] => true
  | x :: xs => hasK x && hasKs xs
end
mutual
def hshK (w : World) : PyData → Int
  | .int i => hashInt i
  | .str x => hashStr w x
  | .bool b => hashInt (if b then 1 else 0)
  | .tuple xs => reduceHash (Builtin.Tuple.tupleHashOf (hshKs w xs))
  | _ => 0
def hshKs (w : World) : List PyData → List Int
  | [] => []
  | x :: xs => hshK w x :: hshKs w xs
end
mutual
def drwK : PyData → Nat
  | .tuple xs => drwKs xs + 1
  | _ => 1
def drwKs : List PyData → Nat
  | [] => 0
  | x :: xs => drwK x + drwKs xs
end
section
variable {prog : Program} {w : World}
variable {A : Around} {E : Value → Shared → Prop} {s : Shared}
/-- a hash by its type's own slot -/
theorem hash_slot {T id : String} {f : Builtin} {v : Value} {Q : Int → Shared → Prop} (hT : s.TypeIs v T) (room : [v].any Value.onHeap = false ∨ A.units < cLine) (sl : Slot T "__hash__" id) (en : entryFor table id = some f) (ok : argsOk id ⟨[v], []⟩) (ns : ∀ x t, v ≠ .str x t)
    (run : wpAny (model prog w) A.in1 (f ⟨[v], []⟩) (fun r s' => ∃ i t, r = .done (.ret (.int i t)) ∧ Q (reduceHash i) s') E s) : wpAny (model prog w) A (pyHash v) Q E s := by
  have e : pyHash v = pyHashByItsType v := by
    cases v with
    | str x t => exact absurd rfl (ns x t)
    | _ => rfl
  have nn : (some (Value.builtin id) == some Value.none) = false := by rw [beq_builtin_none]
  rw [e]
  unfold pyHashByItsType
  refine wpAny_bind (wpAny_cRoomFor_or room (wpAny_bind (wpAny_specialOf hT sl.lookup ?_)))
  simp only [nn, Bool.false_eq_true, if_false]
  refine wpAny_bind (wpAny_specialOf hT sl.lookup ?_)
  simp only [Option.isNone_some, Bool.false_eq_true, if_false]
  refine wpAny_bind (wpAny_callSpecialIfBoundUnlessNone?_slot hT sl (wpAny_call_entry sl hT en (wpAny_mono run (fun r s' h => ?_) fun _ _ x => x) ok))
  obtain ⟨i, t, rfl, q⟩ := h
  refine ⟨_, rfl, ?_⟩
  show wpAny _ _ (pyHashByItsType.reduced i) Q E s'
  unfold pyHashByItsType.reduced
  unfold reduceHash at q
  cases c : (decide (-(2 ^ 63 : Int) ≤ i) && decide (i < 2 ^ 63)) with
  | true =>
    rw [c] at q
    simp only [if_true] at q ⊢
    exact wpAny_pure q
  | false =>
    rw [c] at q
    simp only [Bool.false_eq_true, if_false] at q ⊢
    exact wpAny_bind (wpAny_rule (wpAny_pure q))
theorem hash_bool {b : Bool} {Q : Int → Shared → Prop} (q : Q (hashInt (if b then 1 else 0)) { s with toks := s.toks + 1 }) : wpAny (model prog w) A (pyHash (.bool b)) Q E s := by
  refine hash_slot (T := "bool") (f := Builtin.«int.__hash__») rfl (.inl rfl) F.slot_bool_hash entry_int_hash (args_int_hash _) (fun x t h => by cases h) ?_
  have e : reduceHash (rawHash (if b then 1 else 0)) = hashInt (if b then 1 else 0) := by cases b <;> decide +kernel
  have run : wpAny (model prog w) A.in1 (do ret (← mkInt (rawHash (if b then 1 else 0)))) (fun r s' => ∃ i t, r = .done (.ret (.int i t)) ∧ Q (reduceHash i) s') E s := by
    refine wpAny_mono (wpAny_ret_mkInt (Q := fun v s' => ∃ i t, v = .int i t ∧ Q (reduceHash i) s') ⟨_, _, rfl, by rw [e]; exact q⟩) (fun r s' h => ?_) fun _ _ x => x
    obtain ⟨v, rfl, i, t, rfl, h⟩ := h
    exact ⟨i, t, rfl, h⟩
  cases b with
  | true => exact run
  | false => exact run
mutual
theorem hash_data : ∀ (d : PyData) {A : Around} {E : Value → Shared → Prop} {s : Shared} {v : Value} {as : List Addr} {Q : Int → Shared → Prop}, Reads s.heap v d as → hasK d = true → A.units + d.depth < cLine → Q (hshK w d) { s with toks := s.toks + drwK d } → wpAny (model prog w) A (pyHash v) Q E s
  | .int i, A, E, s, v, as, Q, r, _, _, q => by cases r; exact wpAny_pyHash_int (by simpa only [hshK, drwK] using q)
  | .str x, A, E, s, v, as, Q, r, _, _, q => by cases r; exact wpAny_pyHash_str (by simpa only [hshK, drwK] using q)
  | .bool b, A, E, s, v, as, Q, r, _, _, q => by cases r; exact hash_bool (by simpa only [hshK, drwK] using q)
  | .tuple xs, A, E, s, v, as, Q, r, hk, hu, q => by
    cases r with
    | tuple h1 h2 h3 h4 =>
      rename_i a o vs n
      simp only [hasK] at hk
      simp only [PyData.depth] at hu
      refine hash_slot (T := "tuple") (f := Builtin.«tuple.__hash__») ⟨o, h1, h2⟩ (.inr (by omega)) F.slot_tuple_hash F.entry_tuple_hash (F.args_tuple_hash_1 _) (fun x t h => by cases h) ?_
      show wpAny _ _ (do
        let mut hs : Array Int := #[]
        for x in ← Builtin.Tuple.tupleItemsOf (.ref a) do hs := hs.push (← pyHash x)
        retInt (Builtin.Tuple.tupleHashOf hs.toList)) _ E s
      refine wpAny_bind (wpAny_tupleItemsOf h1 h3 (wpAny_bind ?_))
      rw [← Array.forIn_toList]
      refine hash_all xs #[] h4 hk (by show A.units + 1 + PyData.depthAll xs < cLine; omega) ?_
      simp only [hshK, drwK] at q
      refine wpAny_mono (wpAny_ret_mkInt (Q := fun v s' => ∃ i t, v = .int i t ∧ Q (reduceHash i) s') ⟨_, _, rfl, ?_⟩) (fun r s' h => ?_) fun _ _ x => x
      · simpa [Nat.add_assoc] using q
      · obtain ⟨v, rfl, i, t, rfl, h⟩ := h
        exact ⟨i, t, rfl, h⟩
  | .none, _, _, _, _, _, _, _, hk, _, _ => by simp [hasK] at hk
  | .list _, _, _, _, _, _, _, _, hk, _, _ => by simp [hasK] at hk
  | .dict _, _, _, _, _, _, _, _, hk, _, _ => by simp [hasK] at hk
theorem hash_all : ∀ (xs : List PyData) (acc : Array Int) {A : Around} {E : Value → Shared → Prop} {s : Shared} {vs : List Value} {as : List Addr} {Q : Array Int → Shared → Prop}, ReadsAll s.heap vs xs as → hasKs xs = true → A.units + PyData.depthAll xs < cLine →
    Q (acc ++ (hshKs w xs).toArray) { s with toks := s.toks + drwKs xs } → wpAny (model prog w) A (forIn vs acc fun x r => do let h ← pyHash x; pure (ForInStep.yield (r.push h))) Q E s
  | [], acc, A, E, s, vs, as, Q, r, _, _, q => by
    cases r
    rw [List.forIn_nil]
    exact wpAny_pure (by simpa [hshKs, drwKs] using q)
  | d :: xs, acc, A, E, s, vs, as, Q, r, hk, hu, q => by
    cases r with
    | cons r1 r2 =>
      simp only [hasKs, Bool.and_eq_true] at hk
      simp only [PyData.depthAll] at hu
      rw [List.forIn_cons]
      refine wpAny_bind (wpAny_bind (hash_data d r1 hk.1 (by omega) (wpAny_pure ?_)))
      refine hash_all xs _ r2 hk.2 (by omega) ?_
      simpa [hshKs, drwKs, Nat.add_assoc] using q
end
end
end DL

set_option Elab.async false
set_option linter.all false
set_option maxRecDepth 100000
set_option maxHeartbeats 4000000
set_option autoImplicit false
namespace DL
open PySem PySem.Spec PyProof.Rows L2
section
variable {prog : Program} {w : World}
/-! ### such data compare quietly -/
mutual
theorem quiet_data : ∀ (d : PyData) (n : Nat) {A : Around} {E : Value → Shared → Prop} {s : Shared} {v : Value} {as : List Addr} {Q : Bool → Shared → Prop}, Reads s.heap v d as → hasK d = true → d.depth ≤ n → Q true s → wpAny (model prog w) A (eqIsQuiet n v) Q E s
  | .int i, n, A, E, s, v, as, Q, r, _, _, q => by cases r; rw [eqIsQuiet_byValue n rfl]; exact wpAny_pure q
  | .str x, n, A, E, s, v, as, Q, r, _, _, q => by cases r; rw [eqIsQuiet_byValue n rfl]; exact wpAny_pure q
  | .bool b, n, A, E, s, v, as, Q, r, _, _, q => by cases r; rw [eqIsQuiet_byValue n rfl]; exact wpAny_pure q
  | .tuple xs, 0, A, E, s, v, as, Q, r, hk, hu, q => by simp [PyData.depth] at hu
  | .tuple xs, n + 1, A, E, s, v, as, Q, r, hk, hu, q => by
    cases r with
    | tuple h1 h2 h3 h4 =>
      rename_i a o vs m
      simp only [hasK] at hk
      simp only [PyData.depth] at hu
      have ty : s.TypeIs (.ref a) "tuple" := ⟨o, h1, h2⟩
      unfold eqIsQuiet
      refine wpAny_bind (wpAny_specialOf ty F.slot_tuple_eq.lookup ?_)
      show wpAny _ _ (do
        if !(← isInstance (.ref a) (.type "tuple")) then return false
        for y in (← seqItems? (.ref a)).getD #[] do
          if !(← eqIsQuiet n y) then return false
        return true) Q E s
      refine wpAny_bind (wpAny_isInstance ty isSubtype_tuple_tuple ?_)
      simp only [Bool.not_true, Bool.false_eq_true, if_false]
      refine wpAny_bind (wpAny_seqItems h1 h3 (wpAny_bind ?_))
      show wpAny _ _ (forIn vs _ _) _ _ s
      rw [← Array.forIn_toList]
      refine quiet_all xs n h4 hk (by omega) ?_
      exact wpAny_pure q
  | .none, _, _, _, _, _, _, _, _, hk, _, _ => by simp [hasK] at hk
  | .list _, _, _, _, _, _, _, _, _, hk, _, _ => by simp [hasK] at hk
  | .dict _, _, _, _, _, _, _, _, _, hk, _, _ => by simp [hasK] at hk
theorem quiet_all : ∀ (xs : List PyData) (n : Nat) {A : Around} {E : Value → Shared → Prop} {s : Shared} {vs : List Value} {as : List Addr} {Q : Option Bool × Unit → Shared → Prop}, ReadsAll s.heap vs xs as → hasKs xs = true → PyData.depthAll xs ≤ n → Q (none, ()) s →
    wpAny (model prog w) A (forIn vs ((none, ()) : Option Bool × Unit) fun y r => do
      if (!(← eqIsQuiet n y)) = true then pure (ForInStep.done (some false, ())) else pure (ForInStep.yield (none, ()))) Q E s
  | [], n, A, E, s, vs, as, Q, r, _, _, q => by
    cases r
    rw [List.forIn_nil]
    exact wpAny_pure q
  | d :: xs, n, A, E, s, vs, as, Q, r, hk, hu, q => by
    cases r with
    | cons r1 r2 =>
      simp only [hasKs, Bool.and_eq_true] at hk
      simp only [PyData.depthAll] at hu
      rw [List.forIn_cons]
      refine wpAny_bind (wpAny_bind (quiet_data d n r1 hk.1 (by omega) ?_))
      simp only [Bool.not_true, Bool.false_eq_true, if_false]
      exact wpAny_pure (quiet_all xs n r2 hk.2 (by omega) q)
end
end
end DL

set_option Elab.async false
set_option linter.all false
set_option maxRecDepth 100000
set_option maxHeartbeats 4000000
set_option autoImplicit false
namespace DL
open PySem PySem.Spec PyProof.Rows L2
/-! ### what is the same, among such data -/
mutual
theorem eqv_sym : ∀ a b : PyData, PyData.eqv a b = PyData.eqv b a
  | .none, .none => rfl
  | .none, .bool b => rfl
  | .none, .int b => rfl
  | .none, .str b => rfl
  | .none, .list b => rfl
  | .none, .tuple b => rfl
  | .none, .dict b => rfl
  | .bool a, .none => rfl
  | .bool a, .bool b => by simp only [PyData.eqv]; exact Bool.beq_comm
  | .bool a, .int b => by simp only [PyData.eqv]; exact Bool.beq_comm
  | .bool a, .str b => rfl
  | .bool a, .list b => rfl
  | .bool a, .tuple b => rfl
  | .bool a, .dict b => rfl
  | .int a, .none => rfl
  | .int a, .bool b => by simp only [PyData.eqv]; exact Bool.beq_comm
  | .int a, .int b => by simp only [PyData.eqv]; exact Bool.beq_comm
  | .int a, .str b => rfl
  | .int a, .list b => rfl
  | .int a, .tuple b => rfl
  | .int a, .dict b => rfl
  | .str a, .none => rfl
  | .str a, .bool b => rfl
  | .str a, .int b => rfl
  | .str a, .str b => by simp only [PyData.eqv]; exact Bool.beq_comm
  | .str a, .list b => rfl
  | .str a, .tuple b => rfl
  | .str a, .dict b => rfl
  | .list a, .none => rfl
  | .list a, .bool b => rfl
  | .list a, .int b => rfl
  | .list a, .str b => rfl
  | .list a, .list b => by simp only [PyData.eqv]; exact eqvAll_sym a b
  | .list a, .tuple b => rfl
  | .list a, .dict b => rfl
  | .tuple a, .none => rfl
  | .tuple a, .bool b => rfl
  | .tuple a, .int b => rfl
  | .tuple a, .str b => rfl
  | .tuple a, .list b => rfl
  | .tuple a, .tuple b => by simp only [PyData.eqv]; exact eqvAll_sym a b
  | .tuple a, .dict b => rfl
  | .dict a, .none => rfl
  | .dict a, .bool b => rfl
  | .dict a, .int b => rfl
  | .dict a, .str b => rfl
  | .dict a, .list b => rfl
  | .dict a, .tuple b => rfl
  | .dict a, .dict b => rfl
theorem eqvAll_sym : ∀ xs ys : List PyData, PyData.eqvAll xs ys = PyData.eqvAll ys xs
  | [], [] => rfl
  | [], _ :: _ => rfl
  | _ :: _, [] => rfl
  | x :: xs, y :: ys => by simp only [PyData.eqvAll, eqv_sym x y, eqvAll_sym xs ys]
end
mutual
theorem eqv_trs : ∀ a b c : PyData, hasK a = true → hasK b = true → hasK c = true → PyData.eqv a b = true → PyData.eqv b c = true → PyData.eqv a c = true
  | .tuple xs, .tuple ys, .tuple zs, h1, h2, h3, e1, e2 => by
    simp only [PyData.eqv, hasK] at *
    exact eqvAll_trs xs ys zs h1 h2 h3 e1 e2
  | .str x, .str y, .str z, _, _, _, e1, e2 => by
    simp only [PyData.eqv, beq_iff_eq] at *
    rw [e1, e2]
  | .int i, b, c, _, hb, hc, e1, e2 => by
    cases b <;> cases c <;> simp only [PyData.eqv, hasK, Bool.false_eq_true, beq_iff_eq] at * <;> simp_all
  | .bool i, b, c, _, hb, hc, e1, e2 => by
    cases b <;> cases c <;> simp only [PyData.eqv, hasK, Bool.false_eq_true, beq_iff_eq] at * <;> simp_all
    rename_i b c
    cases i <;> cases c <;> simp_all
  | .tuple _, .int _, _, _, _, _, e1, _ => by simp [PyData.eqv] at e1
  | .tuple _, .str _, _, _, _, _, e1, _ => by simp [PyData.eqv] at e1
  | .tuple _, .bool _, _, _, _, _, e1, _ => by simp [PyData.eqv] at e1
  | .tuple _, .tuple _, .int _, _, _, _, _, e2 => by simp [PyData.eqv] at e2
  | .tuple _, .tuple _, .str _, _, _, _, _, e2 => by simp [PyData.eqv] at e2
  | .tuple _, .tuple _, .bool _, _, _, _, _, e2 => by simp [PyData.eqv] at e2
  | .str _, .int _, _, _, _, _, e1, _ => by simp [PyData.eqv] at e1
  | .str _, .tuple _, _, _, _, _, e1, _ => by simp [PyData.eqv] at e1
  | .str _, .bool _, _, _, _, _, e1, _ => by simp [PyData.eqv] at e1
  | .str _, .str _, .int _, _, _, _, _, e2 => by simp [PyData.eqv] at e2
  | .str _, .str _, .tuple _, _, _, _, _, e2 => by simp [PyData.eqv] at e2
  | .str _, .str _, .bool _, _, _, _, _, e2 => by simp [PyData.eqv] at e2
  | .none, _, _, h, _, _, _, _ => by simp [hasK] at h
  | .list _, _, _, h, _, _, _, _ => by simp [hasK] at h
  | .dict _, _, _, h, _, _, _, _ => by simp [hasK] at h
  | .tuple _, .none, _, _, h, _, _, _ => by simp [hasK] at h
  | .tuple _, .list _, _, _, h, _, _, _ => by simp [hasK] at h
  | .tuple _, .dict _, _, _, h, _, _, _ => by simp [hasK] at h
  | .str _, .none, _, _, h, _, _, _ => by simp [hasK] at h
  | .str _, .list _, _, _, h, _, _, _ => by simp [hasK] at h
  | .str _, .dict _, _, _, h, _, _, _ => by simp [hasK] at h
  | .tuple _, .tuple _, .none, _, _, h, _, _ => by simp [hasK] at h
  | .tuple _, .tuple _, .list _, _, _, h, _, _ => by simp [hasK] at h
  | .tuple _, .tuple _, .dict _, _, _, h, _, _ => by simp [hasK] at h
  | .str _, .str _, .none, _, _, h, _, _ => by simp [hasK] at h
  | .str _, .str _, .list _, _, _, h, _, _ => by simp [hasK] at h
  | .str _, .str _, .dict _, _, _, h, _, _ => by simp [hasK] at h
theorem eqvAll_trs : ∀ xs ys zs : List PyData, hasKs xs = true → hasKs ys = true → hasKs zs = true → PyData.eqvAll xs ys = true → PyData.eqvAll ys zs = true → PyData.eqvAll xs zs = true
  | [], [], [], _, _, _, _, _ => rfl
  | x :: xs, y :: ys, z :: zs, h1, h2, h3, e1, e2 => by
    simp only [PyData.eqvAll, hasKs, Bool.and_eq_true] at *
    exact ⟨eqv_trs x y z h1.1 h2.1 h3.1 e1.1 e2.1, eqvAll_trs xs ys zs h1.2 h2.2 h3.2 e1.2 e2.2⟩
  | [], _ :: _, _, _, _, _, e1, _ => by simp [PyData.eqvAll] at e1
  | _ :: _, [], _, _, _, _, e1, _ => by simp [PyData.eqvAll] at e1
  | [], [], _ :: _, _, _, _, _, e2 => by simp [PyData.eqvAll] at e2
  | _ :: _, _ :: _, [], _, _, _, _, e2 => by simp [PyData.eqvAll] at e2
end
mutual
theorem eqv_hsh (w : World) : ∀ a b : PyData, hasK a = true → hasK b = true → PyData.eqv a b = true → hshK w a = hshK w b
  | .tuple xs, .tuple ys, h1, h2, e => by
    simp only [PyData.eqv, hasK] at *
    simp only [hshK, eqvAll_hsh w xs ys h1 h2 e]
  | .tuple xs, .int _, _, _, e => by simp [PyData.eqv] at e
  | .tuple xs, .str _, _, _, e => by simp [PyData.eqv] at e
  | .tuple xs, .bool _, _, _, e => by simp [PyData.eqv] at e
  | .tuple xs, .none, _, h, _ => by simp [hasK] at h
  | .tuple xs, .list _, _, h, _ => by simp [hasK] at h
  | .tuple xs, .dict _, _, h, _ => by simp [hasK] at h
  | .int i, b, _, hb, e => by cases b <;> simp only [PyData.eqv, hasK, hshK, Bool.false_eq_true, beq_iff_eq] at * <;> rw [e]
  | .bool i, b, _, hb, e => by cases b <;> simp only [PyData.eqv, hasK, hshK, Bool.false_eq_true, beq_iff_eq] at * <;> rw [e]
  | .str i, b, _, hb, e => by cases b <;> simp only [PyData.eqv, hasK, hshK, Bool.false_eq_true, beq_iff_eq] at * <;> rw [e]
  | .none, _, h, _, _ => by simp [hasK] at h
  | .list _, _, h, _, _ => by simp [hasK] at h
  | .dict _, _, h, _, _ => by simp [hasK] at h
theorem eqvAll_hsh (w : World) : ∀ xs ys : List PyData, hasKs xs = true → hasKs ys = true → PyData.eqvAll xs ys = true → hshKs w xs = hshKs w ys
  | [], [], _, _, _ => rfl
  | x :: xs, y :: ys, h1, h2, e => by
    simp only [PyData.eqvAll, hasKs, Bool.and_eq_true] at *
    simp only [hshKs, eqv_hsh w x y h1.1 h2.1 e.1, eqvAll_hsh w xs ys h1.2 h2.2 e.2]
  | [], _ :: _, _, _, e => by simp [PyData.eqvAll] at e
  | _ :: _, [], _, _, e => by simp [PyData.eqvAll] at e
end
mutual
theorem hasK_plain : ∀ a : PyData, hasK a = true → a.plain = true
  | .tuple xs, h => by simp only [hasK] at h; simp only [PyData.plain]; exact hasKs_plain xs h
  | .int _, _ => rfl
  | .str _, _ => rfl
  | .bool _, _ => rfl
  | .none, h => by simp [hasK] at h
  | .list _, h => by simp [hasK] at h
  | .dict _, h => by simp [hasK] at h
theorem hasKs_plain : ∀ xs : List PyData, hasKs xs = true → PyData.plainAll xs = true
  | [], _ => rfl
  | x :: xs, h => by simp only [hasKs, Bool.and_eq_true] at h; simp only [PyData.plainAll, hasK_plain x h.1, hasKs_plain xs h.2, Bool.and_self]
end
end DL

set_option Elab.async false
set_option linter.all false
set_option maxRecDepth 100000
set_option maxHeartbeats 4000000
set_option autoImplicit false
namespace DL
open PySem PySem.Spec PyProof.Rows L2
/-! ### dicts whose keys are such data -/
structure Ents (w : World) (h : Heap) (ks : List PyData) (es : Array DictEntry) : Prop where
  len : es.size = ks.length
  at_ : ∀ (i : Nat) (e : DictEntry) (k : PyData), es[i]? = some e → ks[i]? = some k → e.hash = hshK w k ∧ ∃ as, Reads h e.key k as
  has : ∀ k ∈ ks, hasK k = true ∧ k.depth ≤ 8
  uniq : ∀ (i j : Nat) (a b : PyData), i < j → ks[i]? = some a → ks[j]? = some b → PyData.eqv a b = false
section
variable {prog : Program} {w : World} {A : Around} {E : Value → Shared → Prop} {s : Shared} {d : Addr} {o : Obj} {es : Array DictEntry} {ep : Nat} {ks : List PyData} {key : Value} {k : PyData} {as : List Addr}
theorem Ents.get (X : Ents w s.heap ks es) {i : Nat} (hi : i < es.size) : ∃ e a, es[i]? = some e ∧ ks[i]? = some a ∧ e.hash = hshK w a ∧ (∃ as, Reads s.heap e.key a as) ∧ hasK a = true ∧ a.depth ≤ 8 := by
  have h2 : i < ks.length := by rw [← X.len]; exact hi
  have h3 := X.at_ i es[i] ks[i] (Array.getElem?_eq_getElem hi) (List.getElem?_eq_getElem h2)
  have h4 := X.has ks[i] (List.getElem_mem h2)
  exact ⟨_, _, Array.getElem?_eq_getElem hi, List.getElem?_eq_getElem h2, h3.1, h3.2, h4⟩
theorem Ents.same (X : Ents w s.heap ks es) {i j : Nat} {a b : PyData} (hi : ks[i]? = some a) (hj : ks[j]? = some b) (hk : hasK k = true) (h1 : PyData.eqv a k = true) (h2 : PyData.eqv b k = true) : i = j := by
  have ka := (X.has a (List.mem_of_getElem? hi)).1
  have kb := (X.has b (List.mem_of_getElem? hj)).1
  have e : PyData.eqv a b = true := eqv_trs a k b ka hk kb h1 (by rw [eqv_sym]; exact h2)
  rcases Nat.lt_trichotomy i j with h | h | h
  · rw [X.uniq i j a b h hi hj] at e; cases e
  · exact h
  · rw [eqv_sym, X.uniq j i b a h hj hi] at e; cases e
theorem calm_all {M : Model} {σ : Type} {x0 : σ} {f : Value → σ → Sem (ForInStep σ)} {Q : σ → Shared → Prop} : ∀ (vs : List Value), (∀ v ∈ vs, ∀ (R : ForInStep σ → Shared → Prop), R (.yield x0) s → wpAny M A (f v x0) R E s) → Q x0 s → wpAny M A (forIn vs x0 f) Q E s
  | [], _, q => by rw [List.forIn_nil]; exact wpAny_pure q
  | v :: vs, h, q => by
    rw [List.forIn_cons]
    exact wpAny_bind (h v (by simp) _ (calm_all vs (fun u hu => h u (List.mem_cons_of_mem _ hu)) q))
end
end DL

set_option Elab.async false
set_option linter.all false
set_option maxRecDepth 100000
set_option maxHeartbeats 4000000
set_option autoImplicit false
namespace DL
open PySem PySem.Spec PyProof.Rows L2
/-! ### parts of such data -/
theorem readsAll_mem {h : Heap} : ∀ {vs : List Value} {xs : List PyData} {as : List Addr} {v : Value}, ReadsAll h vs xs as → v ∈ vs → ∃ x ∈ xs, ∃ as', Reads h v x as'
  | _, _, _, v, .nil, hv => by cases hv
  | _, _, _, v, .cons r1 r2, hv => by
    rcases List.mem_cons.mp hv with rfl | hv
    · exact ⟨_, List.mem_cons_self, _, r1⟩
    · obtain ⟨x, hx, r⟩ := readsAll_mem r2 hv
      exact ⟨x, List.mem_cons_of_mem _ hx, r⟩
theorem hasKs_mem : ∀ {xs : List PyData} {x : PyData}, hasKs xs = true → x ∈ xs → hasK x = true
  | y :: ys, x, h, hx => by
    simp only [hasKs, Bool.and_eq_true] at h
    rcases List.mem_cons.mp hx with rfl | hx
    · exact h.1
    · exact hasKs_mem h.2 hx
theorem depth_mem : ∀ {xs : List PyData} {x : PyData} {n : Nat}, PyData.depthAll xs ≤ n → x ∈ xs → x.depth ≤ n
  | y :: ys, x, n, h, hx => by
    simp only [PyData.depthAll] at h
    rcases List.mem_cons.mp hx with rfl | hx
    · omega
    · exact depth_mem (by omega) hx
section
variable {prog : Program} {w : World}
/-- going through values, each of which may end it -/
theorem loop_two {M : Model} {A : Around} {E : Value → Shared → Prop} {s : Shared} {σ : Type} {x0 x1 : σ} {f : Value → σ → Sem (ForInStep σ)} {Q : σ → Shared → Prop} (q0 : Q x0 s) (q1 : Q x1 s) :
    ∀ (vs : List Value), (∀ v ∈ vs, ∀ (R : ForInStep σ → Shared → Prop), R (.yield x0) s → R (.done x1) s → wpAny M A (f v x0) R E s) → wpAny M A (forIn vs x0 f) Q E s
  | [], _ => by rw [List.forIn_nil]; exact wpAny_pure q0
  | v :: vs, h => by
    rw [List.forIn_cons]
    exact wpAny_bind (h v List.mem_cons_self _ (loop_two q0 q1 vs fun u hu => h u (List.mem_cons_of_mem _ hu)) (wpAny_pure q1))
/-- such data are of no class statement -/
theorem noclass_data : ∀ (n : Nat) (d : PyData) {A : Around} {E : Value → Shared → Prop} {s : Shared} {v : Value} {as : List Addr} {Q : Bool → Shared → Prop}, Reads s.heap v d as → hasK d = true → d.depth ≤ n → Q false s → wpAny (model prog w) A (ofAClassStatement n v) Q E s := by
  intro n
  induction n with
  | zero =>
    intro d A E s v as Q r hk hn q
    cases r with
    | tuple h1 h2 h3 h4 => simp [PyData.depth] at hn
    | list h1 h2 h3 h4 => simp [hasK] at hk
    | dict h1 => simp [hasK] at hk
    | _ => exact wpAny_pure q
  | succ n ih =>
    intro d A E s v as Q r hk hn q
    cases r with
    | tuple h1 h2 h3 h4 =>
      rename_i a o vs xs m
      simp only [hasK] at hk
      simp only [PyData.depth] at hn
      unfold ofAClassStatement
      refine wpAny_bind (wpAny_typeOf (T := "tuple") ⟨o, h1, h2⟩ ?_)
      have e : (("tuple" : String) == "tuple") = true := by decide
      simp only [e, if_true]
      refine wpAny_bind (wpAny_pure ?_)
      simp only [Bool.not_true, Bool.false_eq_true, if_false]
      refine wpAny_bind (wpAny_seqItems h1 h3 ?_)
      dsimp only
      refine wpAny_bind ?_
      rw [← Array.forIn_toList]
      refine calm_all vs.toList (fun v hv R hR => ?_) (wpAny_pure q)
      obtain ⟨x, hx, as', r⟩ := readsAll_mem h4 hv
      refine wpAny_bind (ih x r (hasKs_mem hk hx) (depth_mem (by omega) hx) ?_)
      exact wpAny_pure hR
    | list h1 h2 h3 h4 => simp [hasK] at hk
    | dict h1 => simp [hasK] at hk
    | _ => exact wpAny_pure q
/-- whether their hashes go by values is told quietly -/
theorem byval_data : ∀ (n : Nat) (d : PyData) {A : Around} {E : Value → Shared → Prop} {s : Shared} {v : Value} {as : List Addr} {Q : Bool → Shared → Prop}, Reads s.heap v d as → hasK d = true → (∀ b, Q b s) → wpAny (model prog w) A (hashByValue n v) Q E s := by
  intro n
  induction n with
  | zero =>
    intro d A E s v as Q r hk q
    cases r with
    | list h1 h2 h3 h4 => simp [hasK] at hk
    | dict h1 => simp [hasK] at hk
    | _ => exact wpAny_pure (q _)
  | succ n ih =>
    intro d A E s v as Q r hk q
    cases r with
    | tuple h1 h2 h3 h4 =>
      rename_i a o vs xs m
      simp only [hasK] at hk
      unfold hashByValue
      refine wpAny_bind (wpAny_specialOf (T := "tuple") ⟨o, h1, h2⟩ F.slot_tuple_hash.lookup ?_)
      show wpAny _ _ (seqItems? (.ref a) >>= _) _ _ s
      refine wpAny_bind (wpAny_seqItems h1 h3 (wpAny_bind ?_))
      show wpAny _ _ (forIn vs _ _) _ _ s
      rw [← Array.forIn_toList]
      refine loop_two (x1 := (some false, ())) (wpAny_pure (q _)) (wpAny_pure (q _)) vs.toList fun v hv R h0 h1 => ?_
      obtain ⟨x, hx, as', r⟩ := readsAll_mem h4 hv
      refine wpAny_bind (ih x r (hasKs_mem hk hx) fun b => ?_)
      cases b
      · exact wpAny_pure h1
      · exact wpAny_pure h0
    | list h1 h2 h3 h4 => simp [hasK] at hk
    | dict h1 => simp [hasK] at hk
    | _ => exact wpAny_pure (q _)
/-- a key as it stands in a heap -/
structure El (h : Heap) (p : Addr × PyData) : Prop where
  rd : ∃ as, Reads h (.ref p.1) p.2 as
  has : hasK p.2 = true
  dp : p.2.depth ≤ 8
section
variable {A : Around} {E : Value → Shared → Prop} {s : Shared}
theorem El.eq {p q : Addr × PyData} (hp : El s.heap p) (hq : El s.heap q) (hu : A.units + 10 < cLine) {Q : Bool → Shared → Prop} (h : Q (PyData.eqv p.2 q.2) s) : wpAny (model prog w) A (eqBool (.ref p.1) (.ref q.1)) Q E s := by
  obtain ⟨as, r1⟩ := hp.rd
  obtain ⟨bs, r2⟩ := hq.rd
  exact SeqAt.eqAt_plain p.2 q.2 A s _ _ _ _ r1 r2 (hasK_plain _ hp.has) (hasK_plain _ hq.has) (by have := Nat.min_le_left p.2.depth q.2.depth; have := hp.dp; omega) _ _ _ _ h
theorem El.seen {p : Addr × PyData} (hp : El s.heap p) {ys : List Value} (hy : ∀ y ∈ ys, ∃ q, y = Value.ref q.1 ∧ El s.heap q) {Q : Bool → Shared → Prop} (h : Q false s) : wpAny (model prog w) A (searchCouldBeSeen (.ref p.1) ys) Q E s := by
  obtain ⟨as, r1⟩ := hp.rd
  unfold searchCouldBeSeen
  refine wpAny_bind (calm_all ys (fun y hv R hR => ?_) (wpAny_pure h))
  obtain ⟨q, rfl, hq⟩ := hy y hv
  obtain ⟨bs, r2⟩ := hq.rd
  dsimp only
  split
  · exact wpAny_pure hR
  · refine wpAny_bind (quiet_data p.2 8 r1 hp.has hp.dp ?_)
    refine wpAny_bind (quiet_data q.2 8 r2 hq.has hq.dp ?_)
    refine wpAny_bind (noclass_data 8 p.2 r1 hp.has hp.dp ?_)
    refine wpAny_bind (noclass_data 8 q.2 r2 hq.has hq.dp ?_)
    exact wpAny_pure hR
end
end
/-! ### the table -/
/-- the c-th stand on a hash's way -/
abbrev stand (t : SetTable) (h : Int) (c : Nat) : SetTable.Probe := nth t.mask (t.probeStart h) c
theorem stand_bare (t : SetTable) (h : Int) : ∀ c, (stand t h c).dummy = none
  | 0 => rfl
  | c + 1 => by
    have ih := stand_bare t h c
    show (nth t.mask (t.probeStart h) (c + 1)).dummy = none
    rw [nth_succ]
    unfold adv
    split <;> exact ih
/-- what a look from the c-th stand on tells -/
theorem look_from {t : SetTable} {hs : List Int} (T : TabOk t hs) {at_ : Nat → Int} (hat : ∀ i, i < hs.length → hs[i]? = some (at_ i)) {h : Int} {c K : Nat} (hc : c ≤ K) (hf : K < 10 * SetTable.turns t.mask) (hK : way t.mask h K ∉ t.place.toList)
    (hb : ∀ k, k < K → way t.mask h k ∈ t.place.toList) :
    (∃ n i : Nat, c ≤ n ∧ n < K ∧ t.place.toList[i]? = some (way t.mask h n) ∧ hs[i]? = some h ∧ (∀ m j : Nat, c ≤ m → m < n → t.place.toList[j]? = some (way t.mask h m) → hs[j]? ≠ some h) ∧ t.probe at_ h (stand t h c) = some (.candidate (way t.mask h n) i (stand t h (n + 1)))) ∨
    ((∀ m j : Nat, c ≤ m → m < K → t.place.toList[j]? = some (way t.mask h m) → hs[j]? ≠ some h) ∧ t.probe at_ h (stand t h c) = some (.empty (way t.mask h K) none)) := by
  have sh : ∀ q, nth t.mask (stand t h c) q = stand t h (c + q) := fun q => (nth_add t.mask c _ q).symm
  have wy : ∀ q, (stand t h q).j = way t.mask h q := fun q => rfl
  have inh : ∀ {i j : Nat}, t.place.toList[i]? = some j → hs[i]? = some (at_ i) := fun {i j} e => hat i (by
    have h1 := (List.getElem?_eq_some_iff.mp e).1
    rw [Array.length_toList, T.sz] at h1
    exact h1)
  rcases go_spec t T.ris T.dm at_ h (10 * SetTable.turns t.mask) (K - c) (stand t h c) (stand_bare t h c) (by omega) (fun q hq => by rw [sh, wy]; exact hb _ (by omega)) (by rw [sh, wy, show c + (K - c) = K by omega]; exact hK) with ⟨q, i, h1, h2, h3, h4, h5⟩ | ⟨h1, h2⟩
  · rw [sh, wy] at h2
    refine .inl ⟨c + q, i, by omega, by omega, h2, by rw [inh h2, h3], fun m j a b e z => ?_, ?_⟩
    · refine h4 (m - c) j (by omega) (by rw [sh, wy, show c + (m - c) = m by omega]; exact e) ?_
      rw [inh e] at z
      exact Option.some.inj z
    · rw [sh, sh, wy] at h5
      exact h5
  · refine .inr ⟨fun m j a b e z => ?_, ?_⟩
    · refine h1 (m - c) j (by omega) (by rw [sh, wy, show c + (m - c) = m by omega]; exact e) ?_
      rw [inh e] at z
      exact Option.some.inj z
    · rw [sh, wy, show c + (K - c) = K by omega] at h2
      exact h2
end DL

set_option Elab.async false
set_option linter.all false
set_option maxRecDepth 100000
set_option maxHeartbeats 4000000
set_option autoImplicit false
namespace DL
open PySem PySem.Spec PyProof.Rows L2
/-! ### sets of such data -/
abbrev El.row (w : World) (p : Addr × PyData) : Int × Value := (hshK w p.2, .ref p.1)
structure SetN (w : World) (h : Heap) (a : Addr) (L : List (Addr × PyData)) (es : Array (Int × Value)) (ep : Nat) (t : SetTable) : Prop where
  ob : ∃ o, h.get? a = some o ∧ o.ExactSet ∧ o.data = .set es ep t
  rows : es.toList = L.map (El.row w)
  tab : TabOk t (L.map fun p => hshK w p.2)
  els : ∀ p ∈ L, El h p
  room : L.length * 5 < t.mask * 3
  few : L.length < 64
abbrev inK (L : List (Addr × PyData)) (k : PyData) : Bool := L.any fun p => PyData.eqv p.2 k
section
variable {prog : Program} {w : World} {A : Around} {E : Value → Shared → Prop} {s : Shared} {a : Addr} {L : List (Addr × PyData)} {es : Array (Int × Value)} {ep : Nat} {t : SetTable} {x : Addr × PyData}
theorem SetN.size (R : SetN w s.heap a L es ep t) : es.size = L.length := by
  rw [← Array.length_toList, R.rows, List.length_map]
theorem fits_few (h1 : t.dummies = #[]) (h2 : t.place.size = es.size) (h3 : es.size ≤ t.mask) : t.fits es.size = true := by
  unfold SetTable.fits SetTable.fill
  rw [h1, h2]
  simpa using h3
theorem SetN.fits (R : SetN w s.heap a L es ep t) : t.fits es.size = true := by
  have h1 := R.tab.sz
  rw [List.length_map, ← R.size] at h1
  have := R.room
  have := R.size
  exact fits_few R.tab.dm h1 (by omega)
theorem SetN.row (R : SetN w s.heap a L es ep t) (i : Nat) : es[i]? = L[i]?.map (El.row w) := by
  rw [← Array.getElem?_toList, R.rows, List.getElem?_map]
/-- the search, from a stand on behind which all that are like it are -/
theorem SetN.seek (R : SetN w s.heap a L es ep t) (hx : El s.heap x) (hu : A.units + 10 < cLine) {K : Nat} (hf : K < 10 * SetTable.turns t.mask) (hK : way t.mask (hshK w x.2) K ∉ t.place.toList) (hb : ∀ k, k < K → way t.mask (hshK w x.2) k ∈ t.place.toList)
    {Q : SetFound → Shared → Prop} (yes : inK L x.2 = true → Q (.there none) s) (no : inK L x.2 = false → Q (.free (way t.mask (hshK w x.2) K) false) s) :
    ∀ (n c : Nat) (from_ : Option SetTable.Probe), from_.getD (t.probeStart (hshK w x.2)) = stand t (hshK w x.2) c → c ≤ K → K < c + n →
      (∀ (i m : Nat) (p : Addr × PyData), L[i]? = some p → PyData.eqv p.2 x.2 = true → t.place.toList[i]? = some (way t.mask (hshK w x.2) m) → m < K → ∃ m', way t.mask (hshK w x.2) m' = way t.mask (hshK w x.2) m ∧ c ≤ m' ∧ m' < K) →
      wpAny (model prog w) A (setSearchFrom a (.ref x.1) (hshK w x.2) true n from_) Q E s := by
  obtain ⟨o, ho, hex, hd⟩ := R.ob
  have gw : t.gaveWay = false := by unfold SetTable.gaveWay; rw [mask_odd R.tab.mok]; rfl
  have hat : ∀ i, i < (L.map fun p => hshK w p.2).length → (L.map fun p => hshK w p.2)[i]? = some ((fun i => (es[i]?.map (·.1)).getD 0) i) := fun i hi => by
    rw [List.length_map] at hi
    simp only [List.getElem?_map, R.row i, List.getElem?_eq_getElem hi, Option.map_some, Option.getD_some]
  have lists : ∀ {i j : Nat}, t.place.toList[i]? = some j → i < L.length := fun {i j} e => by
    have := (List.getElem?_eq_some_iff.mp e).1
    rw [Array.length_toList, R.tab.sz, List.length_map] at this
    exact this
  intro n
  induction n with
  | zero => intro c _ _ h1 h2 _; omega
  | succ n ih =>
    intro c from_ hfr hc hn hre
    rw [setSearchFrom_succ]
    refine wpAny_bind (wpAny_setState_of ho hd R.fits ?_)
    simp only [gw, Bool.false_eq_true, if_false, hfr]
    rcases look_from R.tab hat hc hf hK hb with ⟨m, i, h1, h2, h3, h4, h5, h6⟩ | ⟨h1, h2⟩
    · have hi := lists h3
      have hp : L[i]? = some L[i] := List.getElem?_eq_getElem hi
      have hel := R.els L[i] (List.getElem_mem hi)
      have he : es[i]? = some (El.row w L[i]) := by rw [R.row, hp]; rfl
      have tail : wpAny (model prog w) A (searchRest a (.ref x.1) (hshK w x.2) true n es t (way t.mask (hshK w x.2) m) i (stand t (hshK w x.2) (m + 1))) Q E s := by
        unfold searchRest
        simp only [he]
        refine wpAny_bind (wpAny_holding (hel.eq hx hu ?_))
        refine wpAny_bind (wpAny_setState_of ho hd R.fits ?_)
        cases c1 : PyData.eqv L[i].2 x.2 with
        | true =>
          simp only [Bool.and_true, if_true]
          exact wpAny_pure (yes (List.any_eq_true.mpr ⟨_, List.getElem_mem hi, c1⟩))
        | false =>
          have sl : t.slot (way t.mask (hshK w x.2) m) = .live i := slot_live R.tab.ris h3
          simp only [Bool.and_false, Bool.false_eq_true, if_false, sameMem, if_true, sl, he]
          refine wpAny_bind (wpAny_isSame_ref_self (wpAny_bind (wpAny_pure ?_)))
          simp only [if_true]
          refine ih (m + 1) _ rfl (by omega) (by omega) fun i0 m0 p0 e1 e2 e3 e4 => ?_
          obtain ⟨m1, w1, w2, w3⟩ := hre i0 m0 p0 e1 e2 e3 e4
          refine ⟨m1, w1, ?_, w3⟩
          have hh : hshK w p0.2 = hshK w x.2 := eqv_hsh w _ _ (R.els p0 (List.mem_of_getElem? e1)).has hx.has e2
          have hl : (L.map fun p => hshK w p.2)[i0]? = some (hshK w x.2) := by rw [List.getElem?_map, e1, ← hh]; rfl
          rcases Nat.lt_trichotomy m1 m with z | z | z
          · exact absurd hl (h5 m1 i0 w2 z (by rw [w1]; exact e3))
          · subst z
            rw [← w1] at e3
            have s2 := slot_live R.tab.ris e3
            rw [sl] at s2
            injection s2 with s2
            subst s2
            rw [hp] at e1
            cases e1
            rw [c1] at e2
            cases e2
          · omega
      rw [h6]
      dsimp only
      cases hl : t.led with
      | true => exact tail
      | false =>
        simp only [Bool.not_false, if_true]
        refine wpAny_bind (hx.seen (fun y hy => ?_) ?_)
        · obtain ⟨e, he1, rfl⟩ := List.mem_map.mp hy
          have he2 : e ∈ es.toList := by
            have := (Array.mem_toList_iff.mp he1)
            rw [Array.mem_filter] at this
            exact Array.mem_toList_iff.mpr this.1
          rw [R.rows] at he2
          obtain ⟨q, hq, rfl⟩ := List.mem_map.mp he2
          exact ⟨q, rfl, R.els q hq⟩
        · exact tail
    · rw [h2]
      refine wpAny_pure (no ?_)
      rw [Bool.eq_false_iff]
      intro z
      obtain ⟨p, hp, e⟩ := List.any_eq_true.mp z
      obtain ⟨i, hi, rfl⟩ := List.getElem_of_mem hp
      have hp0 : L[i]? = some L[i] := List.getElem?_eq_getElem hi
      have hh : hshK w L[i].2 = hshK w x.2 := eqv_hsh w _ _ (R.els _ hp).has hx.has e
      have hl : (L.map fun p => hshK w p.2)[i]? = some (hshK w x.2) := by rw [List.getElem?_map, hp0, ← hh]; rfl
      have hpl : i < t.place.toList.length := by rw [Array.length_toList, R.tab.sz, List.length_map]; exact hi
      have hj := List.getElem?_eq_getElem hpl
      obtain ⟨m, hm, w0⟩ := R.tab.before hK hl hj
      rw [← w0] at hj
      obtain ⟨m', w1, w2, w3⟩ := hre i m _ hp0 e hj hm
      exact h1 m' i w2 w3 (by rw [w1]; exact hj) hl
/-- the search as adding asks for it -/
theorem SetN.search (R : SetN w s.heap a L es ep t) (hx : El s.heap x) (hu : A.units + 10 < cLine) {Q : SetFound → Shared → Prop} (yes : inK L x.2 = true → Q (.there none) s)
    (no : ∀ K, inK L x.2 = false → way t.mask (hshK w x.2) K ∉ t.place.toList → (∀ c, c < K → way t.mask (hshK w x.2) c ∈ t.place.toList) → Q (.free (way t.mask (hshK w x.2) K) false) s) :
    wpAny (model prog w) A (setSearch a (.ref x.1) (hshK w x.2) true) Q E s := by
  have := R.room
  obtain ⟨K, hf, hK, hb⟩ := R.tab.first (by rw [List.length_map]; omega) (hshK w x.2)
  have big : K < 100000 := by
    have := R.tab.mok
    unfold SetTable.turns at hf
    rcases this with e | e | e <;> rw [e] at hf <;> omega
  exact R.seek hx hu hf hK hb yes (fun z => no K z hK hb) 100000 0 none rfl (Nat.zero_le _) (by omega) fun i m p _ _ _ hm => ⟨m, rfl, Nat.zero_le _, hm⟩
end
end DL

set_option Elab.async false
set_option linter.all false
set_option maxRecDepth 100000
set_option maxHeartbeats 4000000
set_option autoImplicit false
namespace DL
open PySem PySem.Spec PyProof.Rows L2
/-! ### what reads does so where all but a set stays -/
section
variable {h h' : Heap} {a : Addr}
mutual
theorem reads_but (na : ∀ o vs n, h.get? a = some o → o.data ≠ .seq vs n) (sb : Heap.SameBut a h h') : ∀ (d : PyData) {v : Value} {as : List Addr}, hasK d = true → Reads h v d as → Reads h' v d as
  | .tuple xs, v, as, hk, r => by
    cases r with
    | tuple h1 h2 h3 h4 =>
      simp only [hasK] at hk
      refine .tuple ((sb.2 _ fun z => ?_).trans h1) h2 h3 (readsAll_but na sb xs hk h4)
      subst z
      exact na _ _ _ h1 h3
  | .int i, v, as, _, r => by cases r; constructor
  | .str x, v, as, _, r => by cases r; constructor
  | .bool b, v, as, _, r => by cases r; constructor
  | .none, v, as, hk, _ => by simp [hasK] at hk
  | .list _, v, as, hk, _ => by simp [hasK] at hk
  | .dict _, v, as, hk, _ => by simp [hasK] at hk
theorem readsAll_but (na : ∀ o vs n, h.get? a = some o → o.data ≠ .seq vs n) (sb : Heap.SameBut a h h') : ∀ (ds : List PyData) {vs : List Value} {as : List Addr}, hasKs ds = true → ReadsAll h vs ds as → ReadsAll h' vs ds as
  | [], _, _, _, r => by cases r; constructor
  | d :: ds, _, _, hk, r => by
    cases r with
    | cons r1 r2 =>
      simp only [hasKs, Bool.and_eq_true] at hk
      exact .cons (reads_but na sb d hk.1 r1) (readsAll_but na sb ds hk.2 r2)
end
end
/-- a list by an order of its places -/
theorem by_order {α β : Type} (f : α → β) (L : List α) (es : Array β) (hr : es.toList = L.map f) (order : Array Nat) (hp : order.toList.Perm (List.range L.length)) :
    ∃ L' : List α, (order.filterMap (es[·]?)).toList = L'.map f ∧ L'.Perm L ∧ ∀ (g : β → Int) (z : Int), L'.map (fun p => g (f p)) = order.toList.map fun i => (es.map g).getD i z := by
  have at_ : ∀ i : Nat, es[i]? = L[i]?.map f := fun i => by rw [← Array.getElem?_toList, hr, List.getElem?_map]
  have lt : ∀ i ∈ order.toList, i < L.length := fun i hi => List.mem_range.mp (hp.mem_iff.mp hi)
  have e : ∀ M : List α, (List.range M.length).filterMap (fun i => M[i]?) = M := fun M => by
    have h1 : ∀ i ∈ List.range M.length, M[i]? = (fun i => M[i]?) i := fun _ _ => rfl
    refine List.ext_getElem? fun i => ?_
    have : ∀ l : List Nat, (∀ j ∈ l, j < M.length) → ∀ i : Nat, (l.filterMap fun j => M[j]?)[i]? = l[i]?.bind fun j => M[j]? := by
      intro l
      induction l with
      | nil => intro _ i; simp
      | cons j l ih =>
        intro hl i
        have hj := List.getElem?_eq_getElem (hl j List.mem_cons_self)
        rw [List.filterMap_cons_some hj]
        cases i with
        | zero => simp only [List.getElem?_cons_zero, Option.bind_some, hj]
        | succ i => simp only [List.getElem?_cons_succ]; exact ih (fun q hq => hl q (List.mem_cons_of_mem _ hq)) i
    rw [this _ (fun j hj => List.mem_range.mp hj)]
    rcases Nat.lt_or_ge i M.length with c | c
    · rw [List.getElem?_range c]; rfl
    · rw [List.getElem?_eq_none (by simpa using c), List.getElem?_eq_none c]; rfl
  refine ⟨order.toList.filterMap fun i => L[i]?, ?_, ?_, fun g z => ?_⟩
  · rw [Array.toList_filterMap, List.map_filterMap]
    exact congrArg (fun q => order.toList.filterMap q) (funext at_)
  · have := hp.filterMap fun i => L[i]?
    rw [e L] at this
    exact this
  · revert lt
    generalize order.toList = l
    intro lt
    induction l with
    | nil => rfl
    | cons i l ih =>
      have hi := List.getElem?_eq_getElem (lt i List.mem_cons_self)
      rw [List.filterMap_cons_some hi, List.map_cons, List.map_cons, ih fun j hj => lt j (List.mem_cons_of_mem _ hj)]
      congr 1
      rw [Array.getD_eq_getD_getElem?, Array.getElem?_map, at_, hi]
      rfl
section
variable {prog : Program} {w : World} {A : Around} {E : Value → Shared → Prop} {s : Shared} {a : Addr} {L : List (Addr × PyData)} {es : Array (Int × Value)} {ep : Nat} {t : SetTable} {x : Addr × PyData} {o : Obj}
theorem El.but {h h' : Heap} {p : Addr × PyData} (hp : El h p) (ho : h.get? a = some o) (hd : o.data = .set es ep t) (sb : Heap.SameBut a h h') : El h' p := by
  obtain ⟨⟨as, r⟩, h2, h3⟩ := hp
  refine ⟨⟨as, reads_but (a := a) (fun o' vs n e z => ?_) sb _ h2 r⟩, h2, h3⟩
  rw [ho] at e
  cases e
  rw [hd] at z
  cases z
/-- the table laid anew -/
theorem set_grow (ho : s.heap.get? a = some o) (hex : o.ExactSet) (hd : o.data = .set es ep t) (hr : es.toList = L.map (El.row w)) (tab : TabOk t (L.map fun p => hshK w p.2)) (els : ∀ p ∈ L, El s.heap p) (few : L.length < 64) (le : L.length ≤ t.mask)
    {want M : Nat} (hw : SetTable.sizeAbove want = M + 1) (hM : MaskOk M) (hn : L.length * 5 < M * 3) {Q : Unit → Shared → Prop}
    (q : ∀ h' L' es' ep' t', Heap.SameBut a s.heap h' → SetN w h' a L' es' ep' t' → L'.Perm L → Q () { s with heap := h' }) : wpAny (model prog w) A (setRelay a want) Q E s := by
  have sz : es.size = L.length := by rw [← Array.length_toList, hr, List.length_map]
  have mb : M ≤ 127 := by rcases hM with e | e | e <;> omega
  have psz := tab.sz
  rw [List.length_map] at psz
  obtain ⟨t', order, e1, e2, e3, e4, _, _, e5⟩ := relaid_ok t (hs := es.map (·.1)) (wanted := want) (M := M) (by omega) hM (by rw [Array.size_map, sz]; omega)
  rw [Array.size_map, sz] at e2
  obtain ⟨L', l1, l2, l3⟩ := by_order (El.row w) L es hr order e2
  have l4 := l3 (fun p => p.1) 0
  have e3' : TabOk t' (L'.map fun p => hshK w p.2) := by
    have : (L'.map fun p => hshK w p.2) = order.toList.map fun i => (es.map (fun p => p.1)).getD i 0 := l4
    rw [this]; exact e3
  have sz' : (order.filterMap (es[·]?)).size = L.length := by rw [← Array.length_toList, l1, List.length_map, l2.length_eq]
  rw [setRelay_eq]
  refine wpAny_bind (wpAny_setState_of ho hd (fits_few tab.dm (by omega) (by omega)) ?_)
  dsimp only
  rw [if_neg (by rw [hw, sizeLine_eq]; omega), e1]
  refine wpAny_bind ?_
  dsimp only
  rw [if_neg (by rw [sz', sz]; simp)]
  refine wpAny_pure ?_
  refine wpAny_storeSet_of ho hd ?_ (by rw [sz', sizeLine_eq]; omega)
  have sb : Heap.SameBut a s.heap (s.heap.update a (Obj.putSet (order.filterMap (es[·]?)) t')) := Heap.SameBut.update ..
  exact q _ L' _ (ep + 1) t' sb ⟨⟨_, store_at ho hd, ⟨hex.1, hex.2.1, hex.2.2⟩, rfl⟩, l1, e3', fun p hp => (els p (l2.mem_iff.mp hp)).but ho hd sb, by rw [l2.length_eq, e4]; exact hn, by rw [l2.length_eq]; exact few⟩ l2
/-- a key put into the set -/
theorem SetN.add (R : SetN w s.heap a L es ep t) (hx : El s.heap x) (hu : A.units + 10 < cLine) (few : L.length + 1 < 64) {Q : Bool → Shared → Prop}
    (q : ∀ b h' L' es' ep' t', Heap.SameBut a s.heap h' → SetN w h' a L' es' ep' t' → (if inK L x.2 then L' = L else L'.Perm (x :: L)) → Q b { s with heap := h' }) : wpAny (model prog w) A (setAddHashed a (.ref x.1) (hshK w x.2)) Q E s := by
  obtain ⟨o, ho, hex, hd⟩ := R.ob
  have sz := R.size
  have room := R.room
  unfold setAddHashed
  refine wpAny_holding ?_
  rw [show (100000 : Nat) = 99999 + 1 from rfl, setAddHashedIn_succ]
  refine wpAny_bind (wpAny_setState_of ho hd R.fits ?_)
  dsimp only
  rw [if_neg (by simp [byScan, Value.scannable])]
  refine wpAny_bind (R.search hx hu (fun c => ?_) fun K c hK hb => ?_)
  · exact wpAny_pure (q false s.heap L es ep t (Heap.SameBut.refl a s.heap) R (by rw [c]; rfl))
  · refine wpAny_bind (wpAny_setState_of ho hd R.fits ?_)
    obtain ⟨q1, q2, q3, q4, _, _, _, _, q9⟩ := R.tab.put hK hb
    dsimp only
    generalize t.put (way t.mask (hshK w x.2) K) = pt at q1 q3 q4 q9 ⊢
    obtain ⟨t1, p⟩ := pt
    dsimp only at q1 q3 q4 q9 ⊢
    subst q1
    generalize SetTable.below t.place (way t.mask (hshK w x.2) K) = p at q2 q3 ⊢
    have pm : (L.take p ++ x :: L.drop p).Perm (x :: L) := put_perm L p x
    have rows1 : (SetTable.insertAt es p (hshK w x.2, Value.ref x.1)).toList = (L.take p ++ x :: L.drop p).map (El.row w) := by
      rw [SetTable.toList_insertAt, R.rows, List.map_append, List.map_cons, List.map_take, List.map_drop]
    have hs1 : (L.map fun p => hshK w p.2).take p ++ hshK w x.2 :: (L.map fun p => hshK w p.2).drop p = (L.take p ++ x :: L.drop p).map fun p => hshK w p.2 := by
      rw [List.map_append, List.map_cons, List.map_take, List.map_drop]
    rw [hs1] at q3
    have len1 : (L.take p ++ x :: L.drop p).length = L.length + 1 := by rw [pm.length_eq]; rfl
    have cont : ∀ b : Bool, wpAny (model prog w) A (do
        storeSet a (SetTable.insertAt es p (hshK w x.2, Value.ref x.1)) (if b = true then t1 else { t1 with plain := false })
        if (!false && (if b = true then t1 else { t1 with plain := false }).tooFull) = true then setRelay a (SetTable.grown (es.size + 1))
        pure true) Q E s := by
      intro b
      obtain ⟨t2, h2⟩ : ∃ t2, t2 = (if b = true then t1 else { t1 with plain := false }) := ⟨_, rfl⟩
      have T2 : TabOk t2 ((L.take p ++ x :: L.drop p).map fun p => hshK w p.2) ∧ t2.mask = t.mask ∧ t2.fill = L.length + 1 := by
        rw [h2]
        rw [List.length_map] at q9
        cases b
        · exact ⟨⟨q3.ris, q3.dm, q3.sz, q3.mok, q3.bd, q3.reach⟩, q4, q9⟩
        · exact ⟨q3, q4, q9⟩
      rw [← h2]
      obtain ⟨T2, m2, f2⟩ := T2
      generalize SetTable.insertAt es p (hshK w x.2, Value.ref x.1) = es1 at rows1 ⊢
      have sz1 : es1.size = L.length + 1 := by rw [← Array.length_toList, rows1, List.length_map, len1]
      generalize L.take p ++ x :: L.drop p = L1 at *
      refine wpAny_bind (wpAny_storeSet_of ho hd ?_ (by rw [sz1, sizeLine_eq]; omega))
      have sb : Heap.SameBut a s.heap (s.heap.update a (Obj.putSet es1 t2)) := Heap.SameBut.update ..
      have ho1 := store_at (es' := es1) (t' := t2) ho hd
      generalize s.heap.update a (Obj.putSet es1 t2) = h1 at sb ho1 ⊢
      have els1 : ∀ p ∈ L1, El h1 p := fun p hp => by
        rcases List.mem_cons.mp (pm.mem_iff.mp hp) with e | hp
        · rw [e]; exact hx.but ho hd sb
        · exact (R.els p hp).but ho hd sb
      have tf : t2.tooFull = decide ((L.length + 1) * 5 ≥ t.mask * 3) := by unfold SetTable.tooFull; rw [f2, m2]
      rw [tf]
      by_cases full : (L.length + 1) * 5 ≥ t.mask * 3
      · simp only [Bool.not_false, Bool.true_and, decide_eq_true full, if_true]
        have two : L.length = 4 ∨ L.length = 18 := by rcases R.tab.mok with e | e | e <;> rw [e] at full room <;> omega
        have grow : ∀ M, SetTable.sizeAbove (SetTable.grown (es.size + 1)) = M + 1 → MaskOk M → (L.length + 1) * 5 < M * 3 → wpAny (model prog w) A (setRelay a (SetTable.grown (es.size + 1)) >>= fun _ => pure true) Q E { s with heap := h1 } := fun M g1 g2 g3 => by
          refine wpAny_bind (set_grow (s := { s with heap := h1 }) (L := L1) ho1 ⟨hex.1, hex.2.1, hex.2.2⟩ rfl rows1 T2 els1 (by omega) (by omega) g1 g2 (by omega) fun h' L' es' ep' t' sb' R' pm' => ?_)
          exact wpAny_pure (q true h' L' es' ep' t' (sb.trans sb') R' (by rw [c]; exact pm'.trans pm))
        rcases two with e | e
        · exact grow 31 (by rw [sz, e, size_20]) (.inr (.inl rfl)) (by omega)
        · exact grow 127 (by rw [sz, e, size_76]) (.inr (.inr rfl)) (by omega)
      · simp only [Bool.not_false, Bool.true_and, decide_eq_false full, Bool.false_eq_true, if_false]
        exact wpAny_pure (q true h1 L1 es1 (ep + 1) t2 sb ⟨⟨_, ho1, ⟨hex.1, hex.2.1, hex.2.2⟩, rfl⟩, rows1, T2, els1, by omega, by omega⟩ (by rw [c]; exact pm))
    obtain ⟨as, r⟩ := hx.rd
    cases pl : t1.plain with
    | true =>
      simp only [if_true]
      exact wpAny_bind (byval_data 8 x.2 r hx.has fun b => cont b)
    | false =>
      simp only [Bool.false_eq_true, if_false]
      exact wpAny_bind (wpAny_pure (cont true))
end
end DL

set_option Elab.async false
set_option linter.all false
set_option maxRecDepth 100000
set_option maxHeartbeats 4000000
set_option autoImplicit false
namespace DL
open PySem PySem.Spec PyProof.Rows L2
/-! ### a set filled from anything that is walked, by what holds behind each item -/
section
variable {prog : Program} {w : World} {A : Around} {R : Result → Shared → Prop} {I : Addr} {fp wr : List Addr} {G : Array GenState → Array GenState → Prop} {n : Nat} {P : Nat → Value → Prop} {St : Nat → Shared → Prop}
end
section
variable {prog : Program} {w : World} {A : Around} {E : Value → Shared → Prop} {s : Shared}
end
end DL

set_option Elab.async false
set_option linter.all false
set_option maxRecDepth 100000
set_option maxHeartbeats 4000000
set_option autoImplicit false
namespace DL
open PySem PySem.Spec PyProof.Rows L2
/-! ### len(set(..)) of nested data -/
def kStep (acc : List PyData) (k : PyData) : List PyData := if acc.any (fun z => PyData.eqv z k) then acc else acc ++ [k]
def kSet (ks : List PyData) : List PyData := ks.foldl kStep []
theorem kSet_snoc (ks : List PyData) (k : PyData) : kSet (ks ++ [k]) = kStep (kSet ks) k := by unfold kSet; rw [List.foldl_append]; rfl
theorem kStep_len (acc : List PyData) (k : PyData) : (kStep acc k).length ≤ acc.length + 1 := by unfold kStep; split <;> simp
theorem kSet_le : ∀ (ks acc : List PyData), (ks.foldl kStep acc).length ≤ acc.length + ks.length
  | [], acc => Nat.le_refl _
  | k :: ks, acc => by
    have h1 := kSet_le ks (kStep acc k)
    have h2 := kStep_len acc k
    simp only [List.foldl_cons, List.length_cons]
    omega
section
variable {prog : Program} {w : World} {A : Around} {E : Value → Shared → Prop} {s : Shared}
/-- the set holds what has come, each once -/
structure Came (w : World) (h0 h : Heap) (S : Addr) (ks : List (Addr × PyData)) (i : Nat) : Prop where
  keeps : ∀ b o, h0.get? b = some o → h.get? b = some o
  set : ∃ L es ep t, SetN w h S L es ep t ∧ (∀ p ∈ L, p ∈ ks) ∧ L.length = (kSet ((ks.take i).map (·.2))).length ∧ ∀ z, hasK z = true → inK L z = (kSet ((ks.take i).map (·.2))).any fun y => PyData.eqv y z
theorem Came.next {h0 : Heap} {S : Addr} {ks : List (Addr × PyData)} (els : ∀ p ∈ ks, El h0 p) (few : ks.length < 64) (hS : h0.get? S = none) (hu : A.units + 20 < cLine) {i : Nat} {x : Addr × PyData} (hi : ks[i]? = some x) (C : Came w h0 s.heap S ks i) {Q : Bool → Shared → Prop}
    (q : ∀ b h' tk, s.toks ≤ tk → Heap.SameBut S s.heap h' → Came w h0 h' S ks (i + 1) → Q b { s with heap := h', toks := tk }) : wpAny (model prog w) A (setAdd S (.ref x.1)) Q E s := by
  obtain ⟨L, es, ep, t, N, sub, len, mem⟩ := C.set
  have hx0 := els x (List.mem_of_getElem? hi)
  have up : ∀ p ∈ ks, El s.heap p := fun p hp => by
    obtain ⟨⟨as, r⟩, h2, h3⟩ := els p hp
    exact ⟨⟨as, Reads.keeps C.keeps r⟩, h2, h3⟩
  have hx := up x (List.mem_of_getElem? hi)
  obtain ⟨as, r⟩ := hx.rd
  have il : i < ks.length := (List.getElem?_eq_some_iff.mp hi).1
  have lt : L.length ≤ i := by
    rw [len]
    have := kSet_le ((ks.take i).map (·.2)) []
    rw [List.length_map, List.length_take] at this
    simp only [List.length_nil] at this
    unfold kSet
    omega
  unfold setAdd
  refine wpAny_holding (wpAny_bind (hash_data x.2 r hx.has (by have := hx.dp; omega) ?_))
  refine SetN.add (s := { s with toks := s.toks + drwK x.2 }) N hx (by omega) (by omega) fun b h' L' es' ep' t' sb N' hL => ?_
  have tk : (ks.take (i + 1)).map (·.2) = (ks.take i).map (·.2) ++ [x.2] := by rw [List.take_add_one, hi, List.map_append]; rfl
  refine q b h' _ (Nat.le_add_right _ _) sb ⟨fun c o e => (sb.2 c fun z => by rw [z, hS] at e; cases e).trans (C.keeps c o e), L', es', ep', t', N', ?_⟩
  rw [tk, kSet_snoc]
  have mx := mem x.2 hx.has
  unfold kStep
  rw [← mx]
  cases c : inK L x.2 with
  | true =>
    rw [c] at hL
    simp only [if_true] at hL
    subst hL
    exact ⟨sub, len, mem⟩
  | false =>
    rw [c] at hL
    simp only [Bool.false_eq_true, if_false] at hL ⊢
    refine ⟨fun p hp => ?_, by rw [hL.length_eq, List.length_cons, List.length_append, len]; rfl, fun z hz => ?_⟩
    · rcases List.mem_cons.mp (hL.mem_iff.mp hp) with e | hp
      · rw [e]; exact List.mem_of_getElem? hi
      · exact sub p hp
    · rw [List.any_append, ← mem z hz]
      show L'.any _ = _
      rw [hL.any_eq]
      simp only [List.any_cons, List.any_nil, Bool.or_false]
      exact Bool.or_comm _ _
theorem Came.keep {h0 h h' : Heap} {S : Addr} {ks : List (Addr × PyData)} {i : Nat} {wr : List Addr} (els : ∀ p ∈ ks, El h0 p) (hS : S ∉ wr) (h1 : ∀ b ∈ wr, h0.get? b = none) (k : ∀ b o, b ∉ wr → h.get? b = some o → h'.get? b = some o) (C : Came w h0 h S ks i) : Came w h0 h' S ks i := by
  obtain ⟨L, es, ep, t, N, sub, rest⟩ := C.set
  have kp : ∀ b o, h0.get? b = some o → h'.get? b = some o := fun b o e => k b o (fun z => by rw [h1 b z] at e; cases e) (C.keeps b o e)
  obtain ⟨o, ho, r⟩ := N.ob
  refine ⟨kp, L, es, ep, t, ⟨⟨o, k S o hS ho, r⟩, N.rows, N.tab, fun p hp => ?_, N.room, N.few⟩, sub, rest⟩
  obtain ⟨⟨as, r⟩, h2, h3⟩ := els p (sub p hp)
  exact ⟨⟨as, Reads.keeps kp r⟩, h2, h3⟩
end
section
variable {X : Cx}
end
end DL

set_option Elab.async false
set_option linter.all false
set_option maxRecDepth 100000
set_option maxHeartbeats 4000000
set_option autoImplicit false
namespace DL
open PySem PySem.Spec PyProof.Rows L2
/-! ### sum(lists, start) -/
section
variable {prog : Program} {w : World} {A : Around} {R : Result → Shared → Prop} {I : Addr} {fp wr : List Addr} {G : Array GenState → Array GenState → Prop} {n : Nat} {P : Nat → Value → Prop} {St : Nat → Shared → Prop}
end
section
variable {prog : Program} {w : World} {A : Around} {E : Value → Shared → Prop} {s : Shared}
end
end DL

set_option Elab.async false
set_option linter.all false
set_option maxRecDepth 100000
set_option maxHeartbeats 4000000
set_option autoImplicit false
namespace DL
open PySem PySem.Spec PyProof.Rows L2
section
variable {X : Cx} {pins : List (Addr × Obj)} {σ : L2.St} {H : Hp} {s : Shared}
end
section
variable {X : Cx}
end
end DL

set_option Elab.async false
set_option linter.all false
set_option maxRecDepth 100000
set_option maxHeartbeats 4000000
set_option autoImplicit false
namespace DL
open PySem PySem.Spec PyProof.Rows L2
/-! ### len(set(..)), read by types -/
mutual
def kyD : D → Bool
  | .int _ => true | .str _ => true | .bl _ => true
  | .tup ds => kyDs ds
  | _ => false
def kyDs : List D → Bool
  | [] => true
  | d :: ds => kyD d && kyDs ds
end
end DL

set_option Elab.async false
set_option linter.all false
set_option maxRecDepth 100000
set_option maxHeartbeats 4000000
set_option autoImplicit false
namespace DL
open PySem PySem.Spec PyProof.Rows L2
/-! ### dicts whose keys are mixed, nested data: read and written -/
section
variable {prog : Program} {w : World} {A : Around} {E : Value → Shared → Prop} {s : Shared} {d : Addr} {o : Obj} {es : Array DictEntry} {ep : Nat} {ks : List PyData} {key v : Value} {k : PyData} {as : List Addr}
end
/-! ### by data -/
def KyOk (kvs : List (D × D)) : Prop := (∀ k ∈ kvs.map (·.1), kyD k = true ∧ depD k ≤ 8) ∧ (kvs.map (·.1)).Pairwise fun p q => eqD p q = false
def ixX (kvs : List (D × D)) (k : D) : Option Nat := kvs.findIdx? fun p => eqD p.1 k
def putX (kvs : List (D × D)) (k v : D) : List (D × D) := match ixX kvs k with
  | some i => kvs.modify i fun p => (p.1, v)
  | none => kvs ++ [(k, v)]
theorem Paired.get {α β : Type} {F : α → β → Prop} : ∀ {xs : List α} {ys : List β} {i : Nat} {a : α}, Paired F xs ys → xs[i]? = some a → ∃ b, ys[i]? = some b ∧ F a b
  | _, _, _, _, .nil, e => by simp at e
  | _, _, 0, _, .cons r t, e => by simp at e; subst e; exact ⟨_, rfl, r⟩
  | _, _, i + 1, a, .cons r t, e => by
    obtain ⟨b, h1, h2⟩ := Paired.get t (i := i) (a := a) (by simpa using e)
    exact ⟨b, by simpa using h1, h2⟩
theorem Paired.app {α β : Type} {F : α → β → Prop} : ∀ {xs xs' : List α} {ys ys' : List β}, Paired F xs ys → Paired F xs' ys' → Paired F (xs ++ xs') (ys ++ ys')
  | _, _, _, _, .nil, q => q
  | _, _, _, _, .cons r t, q => .cons r (Paired.app t q)
theorem Paired.modify {α β : Type} {F : α → β → Prop} {f : α → α} {g : β → β} (h : ∀ a b, F a b → F (f a) (g b)) : ∀ {xs : List α} {ys : List β} (i : Nat), Paired F xs ys → Paired F (xs.modify i f) (ys.modify i g)
  | _, _, _, .nil => by simp; exact .nil
  | _, _, 0, .cons r t => by simp; exact .cons (h _ _ r) t
  | _, _, i + 1, .cons r t => by simp; exact .cons r (Paired.modify h i t)
end DL

set_option Elab.async false
set_option linter.all false
set_option maxRecDepth 100000
set_option maxHeartbeats 4000000
set_option autoImplicit false
namespace DL
open PySem PySem.Spec PyProof.Rows L2
theorem keys_modify (kvs : List (D × D)) (v : D) : ∀ i : Nat, (kvs.modify i fun p => (p.1, v)).map (·.1) = kvs.map (·.1) := by
  induction kvs with
  | nil => intro i; simp
  | cons p kvs ih =>
    intro i
    cases i with
    | zero => simp
    | succ i => simp only [List.modify_succ_cons, List.map_cons, ih]
theorem KyOk.put {kvs : List (D × D)} (ok : KyOk kvs) {k v : D} (hk : kyD k = true) (hd : depD k ≤ 8) : KyOk (putX kvs k v) := by
  unfold putX
  split
  · unfold KyOk
    rw [keys_modify]
    exact ok
  · rename_i e
    unfold KyOk
    rw [List.map_append, List.map_singleton]
    refine ⟨fun z hz => ?_, ?_⟩
    · rcases List.mem_append.mp hz with hz | hz
      · exact ok.1 z hz
      · rw [List.mem_singleton.mp hz]; exact ⟨hk, hd⟩
    · rw [List.pairwise_append]
      refine ⟨ok.2, List.pairwise_singleton _ _, fun z hz y hy => ?_⟩
      rw [List.mem_singleton.mp hy]
      obtain ⟨p, hp, rfl⟩ := List.mem_map.mp hz
      unfold ixX at e
      rw [List.findIdx?_eq_none_iff] at e
      exact e p hp
section
variable {X : Cx} {pins : List (Addr × Obj)} {σ : L2.St} {H : Hp} {s : Shared} {N : Ns} {a : Addr} {kvs : List (D × D)} {kvs' : List (Int × V × V)}
end
end DL

set_option Elab.async false
set_option linter.all false
set_option maxRecDepth 100000
set_option maxHeartbeats 4000000
set_option autoImplicit false
namespace DL
open PySem PySem.Spec PyProof.Rows L2
/-! ### a dict display with text keys, asked at once -/
theorem rm1 {n : Nat} (h : n + 100 < cLine) : n + 1 < cLine := by omega
def trsOf (K : PySem.W.Frag) (l : List (Str × DE)) : List (TE × TE) := l.map fun p => (up K (dC (.str p.1)), up K p.2)
def dVals : List (Str × DE) → DA
  | [] => dNil
  | p :: l => dCons p.2 (dVals l)
theorem tPairs_of {K : PySem.W.Frag} {τ : L2.St} : ∀ (l : List (Str × DE)) {H : Hp} {N : Ns} {G : Gp} {σ : Sd} {R : List D → Gp → Prop} {Q : List (V × V) → Hp → Prop}, RSt K H N σ τ → RelG K H N G → dVals l σ G R →
    (∀ ds G' N' vs H', R ds G' → Stp K H N G H' N' G' → RDs K H' N' ds vs → Q ((l.map fun p => V.str p.1).zip vs) H') → tPairs (trsOf K l) τ H Q
  | [], H, N, G, σ, R, Q, hs, hg, ht, q => q [] G N [] H ht (Stp.refl hg) RDs.nil
  | p :: l, H, N, G, σ, R, Q, hs, hg, ht, q => by
    refine ⟨σ, G, N, fun d G' => d = .str p.1 ∧ G' = G, hs, hg, ⟨rfl, rfl⟩, fun d G' N' v H' hd s1 rd => ?_⟩
    obtain ⟨rfl, rfl⟩ := hd
    obtain rfl := rd.of_str
    refine ⟨σ, G', N', _, hs.le s1.kp, s1.rel, ht, fun d G2 N2 v2 H2 h2 s2 r2 => ?_⟩
    refine tPairs_of l ((hs.le s1.kp).le s2.kp) s2.rel h2 fun ds G3 N3 vs H3 h3 s3 r3 => ?_
    exact q (d :: ds) G3 N3 (v2 :: vs) H3 h3 (s1.trans (s2.trans s3)) (RDs.cons (r2.le s3.kp) r3)
theorem mergeK_new : ∀ (kvs acc : List (Key × V)), ((acc ++ kvs).map (·.1)).Nodup → mergeK acc kvs = acc ++ kvs
  | [], acc, _ => by simp [mergeK]
  | p :: kvs, acc, h => by
    have h1 : putK acc p.1 p.2 = acc ++ [p] := by
      unfold putK
      rw [if_neg]
      intro c
      obtain ⟨z, hz, e⟩ := List.any_eq_true.mp c
      have e : z.1 = p.1 := of_decide_eq_true e
      rw [List.map_append, List.nodup_append] at h
      exact h.2.2 z.1 (List.mem_map.mpr ⟨z, hz, rfl⟩) p.1 (by simp) e
    show mergeK (putK acc p.1 p.2) kvs = _
    rw [h1, mergeK_new kvs (acc ++ [p]) (by simpa using h)]
    simp
def lookD : List Str → List D → Str → Option D
  | n :: ns, d :: ds, z => if z = n then some d else lookD ns ds z
  | _, _, _ => none
theorem lookD_val {K : PySem.W.Frag} {H : Hp} {N : Ns} {z : Str} : ∀ {ns : List Str} {ds : List D} {vs : List V}, RDs K H N ds vs → (∀ d, lookD ns ds z = some d → ∃ v, valV ((ns.map Sum.inr).zip vs : List (Key × V)) (.inr z) = some v ∧ RD K H N d v) ∧ (lookD ns ds z = none → valV ((ns.map Sum.inr).zip vs : List (Key × V)) (.inr z) = none)
  | [], ds, vs, r => ⟨(fun d h => by simp [lookD] at h), fun _ => rfl⟩
  | n :: ns, [], vs, r => ⟨(fun d h => by cases h), fun _ => by rw [r.of_nil]; rfl⟩
  | n :: ns, d :: ds, vs, r => by
    obtain ⟨v, us, rfl, r1, r2⟩ := r.of_cons
    have ih := lookD_val (z := z) (ns := ns) r2
    simp only [lookD, List.map_cons, List.zip_cons_cons]
    by_cases e : z = n
    · subst e
      rw [if_pos rfl, valV_pos rfl]
      exact ⟨fun d' h => ⟨v, rfl, by cases h; exact r1⟩, fun h => by cases h⟩
    · rw [if_neg e, valV_neg (by simpa using Ne.symm e)]
      exact ih
section
variable {X : Cx} {pos : Pos} {keys : List (Option Expr)} {values : List Expr}
/-- a new object that is not known, of which it is not said that it never changes -/
theorem Stp.newN {K : PySem.W.Frag} {H : Hp} {N : Ns} {G : Gp} {p : Addr} {u : HO} (r : RelG K H N G) (h : H p = none) : Stp K H N G (upd H p u) (nadd N p) G := by
  refine ⟨Kp.new h, fun q x e n => ⟨by rw [upd_ne (ne_of_none e h)]; exact e, n, .inr⟩, fun a o' e => ?_⟩
  obtain ⟨x, hx, _⟩ := (r a o' e).2.here
  exact ⟨.inr (r a o' e).1, (r a o' e).2.le (Kp.new h) (upd_ne (ne_of_none hx h))⟩
def tLit (K : PySem.W.Frag) (l : List (Str × DE)) : TE := fun τ H Q => ∃ σ G N R, RSt K H N σ τ ∧ RelG K H N G ∧ dVals l σ G R ∧
  ∀ ds G' N' H' p vs, R ds G' → Stp K H N G H' N' G' → H' p = some (.dK ((l.map fun q => (Sum.inr q.1 : Key)).zip vs)) → G' p = none → RDs K H' N' ds vs → Q (.ref p) H'
theorem zip_split : ∀ (l : List (Str × DE)) (vs : List V), (l.map fun p => V.str p.1).zip vs = (((l.map fun q => (Sum.inr q.1 : Key)).zip vs).map fun kv => (kV kv.1, kv.2))
  | [], _ => rfl
  | p :: l, [] => rfl
  | p :: l, v :: vs => by simp only [List.map_cons, List.zip_cons_cons, zip_split l vs]; rfl
theorem zip_nodup : ∀ (l : List (Str × DE)) (vs : List V), (l.map (·.1)).Nodup → (((l.map fun q => (Sum.inr q.1 : Key)).zip vs).map (·.1)).Nodup := fun l vs h => by
  have h2 : (l.map fun q => (Sum.inr q.1 : Key)).Nodup := by
    rw [show (l.map fun q => (Sum.inr q.1 : Key)) = (l.map (·.1)).map Sum.inr by rw [List.map_map]; rfl]
    exact List.Pairwise.map _ (fun a b h e => h (by cases e; rfl)) h
  refine List.Nodup.sublist ?_ h2
  clear h h2
  generalize l.map (fun q => (Sum.inr q.1 : Key)) = ks
  induction ks generalizing vs with
  | nil => simp
  | cons k ks ih =>
    cases vs with
    | nil => simp
    | cons v vs => simpa using ih vs
theorem pe_lit {l : List (Str × DE)} (h : PPs X pos keys values (trsOf X.K l)) (hall : keys.all (·.isSome) = true) (hl : keys.length = values.length) (h0 : keys ≠ []) (h15 : keys.length ≤ 15) (hn : (l.map (·.1)).Nodup) (hll : l.length ≤ 15) : PE X (.Dict keys values pos) (tLit X.K l) :=
  pe_mono (pe_disp h hall hl h0 h15) fun τ H Q z p hp => by
    obtain ⟨σ, G, N, R, hs, hg, ht, q⟩ := z
    have s0 : Stp X.K H N G (upd H p (.dK [])) (nadd N p) G := Stp.newN hg hp
    refine tPairs_of l (hs.le s0.kp) s0.rel ht fun ds G' N' vs H' h1 s1 r1 => ?_
    obtain ⟨e1, e2, e3⟩ := s1.fr p _ upd_same (hg.free hp)
    refine ⟨e1, (l.map fun q => (Sum.inr q.1 : Key)).zip vs, zip_split l vs, by rw [List.length_zip, List.length_map]; omega, ?_⟩
    rw [mergeK_new _ [] (by simpa using zip_nodup l vs hn), List.nil_append]
    have s2 := (s0.trans s1).poke (u := .dK ((l.map fun q => (Sum.inr q.1 : Key)).zip vs)) hp e1 e2 (e3 (.inl rfl)) rfl rfl
    exact q ds G' N' _ p vs h1 s2 upd_same e2 (r1.le (Kp.write (u := .dK ((l.map fun q => (Sum.inr q.1 : Key)).zip vs)) (e3 (.inl rfl)) e1 rfl rfl))
/-- {..}[e] -/
def dLitIx (l : List (Str × DE)) (ti : DE) : DE := fun σ G R => dVals l σ G fun ds G1 => ti σ G1 fun y G2 => match y with | .str z => (match lookD (l.map (·.1)) ds z with | some d => R d G2 | none => False) | _ => False
theorem map_inr (l : List (Str × DE)) : (l.map fun q => (Sum.inr q.1 : Key)) = (l.map (·.1)).map Sum.inr := by rw [List.map_map]; rfl
/-- {..}.get(e) -/
def dLitGet (l : List (Str × DE)) (ti : DE) : DE := fun σ G R => dVals l σ G fun ds G1 => ti σ G1 fun y G2 => match y with | .str z => R ((lookD (l.map (·.1)) ds z).getD .non) G2 | _ => False
theorem qe_litGet {l : List (Str × DE)} {i : Expr} {ti : DE} {apos pos2 : Pos} (hu : X.A.units + 1 < cLine) (h : PPs X pos keys values (trsOf X.K l)) (hi : QE X i ti) (m : M1 X (.Dict keys values pos) "get" apos i pos2) (hall : keys.all (·.isSome) = true := by rfl) (hl : keys.length = values.length := by rfl) (h0 : keys ≠ [] := by decide) (h15 : keys.length ≤ 15 := by decide)
    (hn : (l.map (·.1)).Nodup := by decide +kernel) (hll : l.length ≤ 15 := by decide) : QE X (.Call (.Attribute (.Dict keys values pos) "get" apos) [i] [] pos2) (dLitGet l ti) :=
  pe_mono (pe_dget1 hu (pe_lit h hall hl h0 h15 hn hll) hi m) fun τ H Q z => by
    obtain ⟨σ, G, N, R, hs, hg, ht, q⟩ := z
    refine ⟨σ, G, N, _, hs, hg, ht, fun ds G1 N1 H1 p vs h1 s1 e1 e2 r1 => ?_⟩
    refine ⟨p, rfl, .inl ⟨_, .inl e1⟩, σ, G1, N1, _, hs.le s1.kp, s1.rel, h1, fun y G2 N2 v H2 h2 s2 r2 => ?_⟩
    split at h2
    · rename_i y z
      obtain rfl := r2.of_str
      obtain ⟨f1, f2, _⟩ := s2.fr p _ e1 e2
      refine ⟨_, .inl ⟨_, .inr z, .inl f1, rfl, rfl⟩, ?_⟩
      rw [map_inr]
      cases e : lookD (l.map (·.1)) ds z with
      | some d =>
        obtain ⟨v, hv, rv⟩ := (lookD_val (r1.le s2.kp)).1 d e
        rw [hv]
        rw [e] at h2
        exact q d G2 N2 v H2 h2 (s1.trans s2) rv
      | none =>
        rw [(lookD_val (r1.le s2.kp)).2 e]
        rw [e] at h2
        exact q _ G2 N2 _ H2 h2 (s1.trans s2) RD.non
    · exact h2.elim
theorem x_litIx {l : List (Str × DE)} {ti : DE} {σ : Sd} {G : Gp} {R : DK} : dLitIx l ti σ G R = dVals l σ G fun ds G1 => ti σ G1 fun y G2 => match y with | .str z => (match lookD (l.map (·.1)) ds z with | some d => R d G2 | none => False) | _ => False := rfl
theorem x_litGet {l : List (Str × DE)} {ti : DE} {σ : Sd} {G : Gp} {R : DK} : dLitGet l ti σ G R = dVals l σ G fun ds G1 => ti σ G1 fun y G2 => match y with | .str z => R ((lookD (l.map (·.1)) ds z).getD .non) G2 | _ => False := rfl
theorem dv_nil {σ : Sd} {G : Gp} {R : List D → Gp → Prop} : dVals [] σ G R = R [] G := rfl
theorem dv_cons {n : Str} {t : DE} {l : List (Str × DE)} {σ : Sd} {G : Gp} {R : List D → Gp → Prop} : dVals ((n, t) :: l) σ G R = t σ G fun x G1 => dVals l σ G1 fun xs G2 => R (x :: xs) G2 := rfl
theorem lookD_miss {n z : Str} {ns : List Str} {d : D} {ds : List D} (h : z ≠ n) : lookD (n :: ns) (d :: ds) z = lookD ns ds z := by simp [lookD, h]
theorem lookD_nil {z : Str} : lookD [] [] z = none := by simp [lookD]
end
end DL

set_option Elab.async false
set_option linter.all false
set_option maxRecDepth 100000
set_option maxHeartbeats 4000000
set_option autoImplicit false
namespace DL
open PySem PySem.Spec PyProof.Rows L2
/-! ### a, b, c = a list -/
def dNamesL (is : List Nat) : DG := fun d σ G R => match d with | .lst ds => ds.length = is.length ∧ R (setAll σ is ds) G | _ => False
theorem tg_namesL {K : PySem.W.Frag} {ws is : List Nat} {n : Nat} (h : ∀ i ∈ is, i ∈ ws) (hn : is.length = n) : TgOk K (gUnl K n (gNames is)) (dNamesL is) ws := fun d v σ τ H N G R Q rd rs rg h0 q => by
  unfold dNamesL at h0
  split at h0
  · rename_i ds
    obtain ⟨p, vs, rfl, sq, r⟩ := rd.of_lst
    have hl := r.length
    refine ⟨p, vs, rfl, sq.sq, by omega, gNames_ok (by omega) ?_⟩
    exact q _ _ h0.2 (RSt.setAll is rs r) (wipe_setAll h)
  · exact h0.elim
theorem x_namesL {is : List Nat} {ds : List D} {σ : Sd} {G : Gp} {Rg : Sd → Gp → Prop} : dNamesL is (.lst ds) σ G Rg = (ds.length = is.length ∧ Rg (setAll σ is ds) G) := rfl
end DL

set_option Elab.async false
set_option linter.all false
set_option maxRecDepth 100000
set_option maxHeartbeats 4000000
set_option autoImplicit false
namespace DL
open PySem PySem.Spec PyProof.Rows L2
/-! ### dicts of typed keys: laws -/
section
variable {α : Type} [DecidableEq α]
variable {d : α → D} (heq : ∀ a b, eqD (d a) (d b) = decide (a = b))
include heq
variable {w : World} {G : Gp} {a : Addr} {l : List (α × Int)} {k : α}
end
/-! ### bits -/
end DL

set_option Elab.async false
set_option linter.all false
set_option maxRecDepth 100000
set_option maxHeartbeats 4000000
set_option autoImplicit false
namespace DL
open PySem PySem.Spec PyProof.Rows L2
/-! ### enumerate of a tuple -/
section
variable {prog : Program} {w : World} {A : Around} {E : Value → Shared → Prop} {s : Shared}
end
section
variable {X : Cx}
end
end DL

set_option Elab.async false
set_option linter.all false
set_option maxRecDepth 100000
set_option maxHeartbeats 4000000
set_option autoImplicit false
namespace DL
open PySem PySem.Spec PyProof.Rows L2
/-! ### a list times an int -/
theorem RDs.rep {K : PySem.W.Frag} {H : Hp} {N : Ns} {ds : List D} {vs : List V} (r : RDs K H N ds vs) : ∀ n : Nat, RDs K H N (List.replicate n ds).flatten (List.replicate n vs).flatten
  | 0 => by simpa using RDs.nil
  | n + 1 => by
    rw [List.replicate_succ, List.replicate_succ, List.flatten_cons, List.flatten_cons]
    exact RDs.append r (RDs.rep r n)
variable {X : Cx}
def dRep (mk : Bool) : DR2 := fun x y G R => match x, y with
  | .ref a, .int k => (match G a with | some (.lst ds) => 0 ≤ k ∧ k < 1000 ∧ ds.length * k.toNat ≤ sizeLine ∧ newL mk (List.replicate k.toNat ds).flatten G R | _ => False)
  | _, _ => False
theorem od_rep (mk : Bool) : OpD X (binaryOp .Mult) (dRep mk) := opr_mono op_rep fun x y H Q h => by
  obtain ⟨c, d, G, N, R, r1, r2, rg, h, q⟩ := h
  unfold dRep at h
  split at h
  · rename_i a k
    obtain rfl := r1.of_ref
    obtain rfl := r2.of_int
    split at h
    · rename_i ds ea
      obtain ⟨h1, h2, h3, h4⟩ := h
      obtain ⟨_, vs, hv, r⟩ := rg a _ ea
      have hl := r.length
      exact ⟨a, k, vs, rfl, rfl, hv, by omega, by omega, by rw [← hl]; exact h3, fun p np => newL_ok rg (r.rep k.toNat) h4 q np⟩
    · exact h.elim
  · exact h.elim
theorem rep_go {mk : Bool} {a : Addr} {k : Int} {ds : List D} {G : Gp} {R : DK} (e : G a = some (.lst ds)) (h1 : 0 ≤ k) (h2 : k < 1000) (h3 : ds.length * k.toNat ≤ sizeLine) (q : newL mk (List.replicate k.toNat ds).flatten G R) : dRep mk (.ref a) (.int k) G R := by
  unfold dRep
  simp only [e]
  exact ⟨h1, h2, h3, q⟩
end DL

set_option Elab.async false
set_option linter.all false
set_option maxRecDepth 100000
set_option maxHeartbeats 4000000
set_option autoImplicit false
namespace DL
open PySem PySem.Spec PyProof.Rows L2
/-! ### >= of data -/
variable {X : Cx}
end DL

set_option Elab.async false
set_option linter.all false
set_option maxRecDepth 100000
set_option maxHeartbeats 4000000
set_option autoImplicit false
namespace DL
open PySem PySem.Spec PyProof.Rows L2
/-! ### split, int of a text, statements that are never reached -/
variable {X : Cx}
/-! ### texts taken apart -/
end DL

set_option Elab.async false
set_option linter.all false
set_option maxRecDepth 100000
set_option maxHeartbeats 4000000
set_option autoImplicit false
namespace DL
open PySem PySem.Spec PyProof.Rows L2
/-! ### a list's slice with a step -/
section
variable {X : Cx} {e : Expr} {lo hi st : Option Expr} {p3 pos : Pos}
end
end DL

set_option Elab.async false
set_option linter.all false
set_option maxRecDepth 100000
set_option maxHeartbeats 4000000
set_option autoImplicit false
namespace DL
open PySem PySem.Spec PyProof.Rows L2
/-! ### words for readings that many laws share -/
theorem lc_typ {α : Type} {g : DG} {te : DE} {σ : Sd} {gd : Gp → Prop} {G : Gp} (d f : α → D) (hg : gd G) : ∀ (xs : List α) (acc : List D), (∀ x ∈ xs, ∀ Q : DK, Q (f x) G → g (d x) σ G fun σ2 G2 => te σ2 G2 Q) → ∀ Q : List D → Gp → Prop, Q (acc ++ xs.map f) G → dLcGo g dYes te gd σ (xs.map d) acc G Q
  | [], acc, _, Q, q => ⟨hg, by simpa using q⟩
  | x :: xs, acc, h, Q, q => ⟨hg, h x List.mem_cons_self _ (lc_typ d f hg xs (acc ++ [f x]) (fun y hy => h y (List.mem_cons_of_mem _ hy)) Q (by simpa using q))⟩
theorem all_typ {α : Type} {g : DG} {te : DE} {σ : Sd} {gd : Gp → Prop} {G : Gp} (d : α → D) (f : α → Bool) (hg : gd G) (xs : List α) (h : ∀ x ∈ xs, ∀ Q : DK, Q (.bl (f x)) G → g (d x) σ G fun σ2 G2 => te σ2 G2 Q) {Q : DK} (q : Q (.bl (xs.all f)) G) : dLcGo g dYes te gd σ (xs.map d) [] G fun ds G2 => dAll [.lst ds] G2 Q := by
  refine lc_typ d (fun x => .bl (f x)) hg xs [] h _ ?_
  have e : [] ++ xs.map (fun x => D.bl (f x)) = (xs.map f).map D.bl := by simp
  rw [e, all_lst, List.all_map]
  exact q
theorem zipD_map {α β : Type} (d : α → D) (f : β → D) : ∀ (xs : List α) (ys : List β), zipD (xs.map d) (ys.map f) = (xs.zip ys).map fun p => .tup [d p.1, f p.2]
  | [], ys => by cases ys <;> rfl
  | x :: xs, [] => rfl
  | x :: xs, y :: ys => by simp only [List.map_cons, zipD, List.zip_cons_cons, zipD_map d f xs ys]
theorem py_str {z : Str} : pyD (.str z) = true ↔ ∀ c ∈ cds z, c < 1114112 := by
  simp only [pyD, List.all_eq_true, decide_eq_true_eq, cds]
theorem py_of (s : String) : pyD (.str (Str.ofString s)) = true := by
  rw [py_str]
  intro c hc
  rw [Str.ofString_eq_toList] at hc
  have hc : c ∈ s.toList.map Char.toNat := by simpa [cds] using hc
  rw [List.mem_map] at hc
  obtain ⟨x, _, rfl⟩ := hc
  have := x.valid
  unfold Char.toNat
  simp only [UInt32.isValidChar, Nat.isValidChar] at this
  show x.val.toNat < 1114112
  omega
end DL

set_option Elab.async false
set_option linter.all false
set_option maxRecDepth 100000
set_option maxHeartbeats 4000000
set_option autoImplicit false
namespace DL
open PySem PySem.Spec PyProof.Rows L2
/-! ### list(range(n)), tuple(range(n)) -/
section
variable {X : Cx} {a : Expr} {ta : DE} {p p2 pos pos2 : Pos}
theorem rds_rng {K : PySem.W.Frag} {H : Hp} {N : Ns} (lo : Int) (f : Nat → Nat) : ∀ ks : List Nat, RDs K H N (ks.map fun i => D.int (lo + (i : Nat))) (ks.map fun i => V.int (lo + (i : Nat)))
  | [] => RDs.nil
  | k :: ks => RDs.cons (RD.int _) (rds_rng lo f ks)
theorem rds_rgV {K : PySem.W.Frag} {H : Hp} {N : Ns} (n : Int) : RDs K H N (rng 0 n.toNat) (rgV 0 n) := by
  unfold rng rgV
  rw [Int.sub_zero]
  exact rds_rng 0 id _
def dListRg (mk : Bool) (ta : DE) : DE := fun σ G R => ta σ G fun x G1 => match x with | .int n => 0 ≤ n ∧ n ≤ 1000000 ∧ newL mk (rng 0 n.toNat) G1 R | _ => False
theorem qe_listRg (mk : Bool) (hc : X.calm = true) (hg : Gl X "list") (hm : X.mg "list" = none) (hg2 : Gl X "range") (hm2 : X.mg "range" = none) (ha : QE X a ta)
    (na : starEach [a] X.env = (false, eval a X.env) :: starEach [] X.env := by rfl)
    (na2 : starEach [.Call (.Name "range" p2) [a] [] pos2] X.env = (false, eval (.Call (.Name "range" p2) [a] [] pos2) X.env) :: starEach [] X.env := by rfl) :
    QE X (.Call (.Name "list" p) [.Call (.Name "range" p2) [a] [] pos2] [] pos) (dListRg mk ta) :=
  pe_mono (pe_listRg hc hg hm (prg_1 hg2 hm2 ha na) na2) fun τ H Q h => by
    obtain ⟨σ, G, N, R, hs, hg, ht, q⟩ := h
    refine ⟨σ, G, N, _, hs, hg, ht, fun d G1 N1 v1 H1 h1 s1 r1 => ?_⟩
    split at h1
    · rename_i n
      rw [r1.of_int]
      exact ⟨n, rfl, RgOk.of_le (by omega) (by omega) (by omega) (by omega), fun q' np => newL_ok s1.rel (rds_rgV n) h1.2.2 (q.le s1) np⟩
    · exact h1.elim
end
/-! ### d.get(k, e) of a dict of nested keys -/
section
variable {X : Cx}
variable {o e : Expr} {es : List Expr} {to : DE} {t : DA} {name : Str} {apos cpos : Pos} {id : String} {r : D → List D → Gp → DK → Prop}
end
/-! ### dicts of typed keys and typed values -/
section
variable {α β : Type} [DecidableEq α]
variable {d : α → D} {v : β → D} (heq : ∀ a b, eqD (d a) (d b) = decide (a = b))
include heq
variable {w : World} {G : Gp} {a : Addr} {l : List (α × β)} {k : α}
end
end DL

set_option Elab.async false
set_option linter.all false
set_option maxRecDepth 100000
set_option maxHeartbeats 4000000
set_option autoImplicit false
namespace DL
open PySem PySem.Spec PyProof.Rows L2
/-! ### sum, max, min of a list of ints -/
section
variable {X : Cx}
end
theorem inon_n : isNon .non = true := rfl
theorem inon_i {i : Int} : isNon (.int i) = false := rfl
theorem inon_s {i : Str} : isNon (.str i) = false := rfl
theorem inon_b {i : Bool} : isNon (.bl i) = false := rfl
theorem inon_t {i : List D} : isNon (.tup i) = false := rfl
theorem inon_l {i : List D} : isNon (.lst i) = false := rfl
theorem inon_r {i : Addr} : isNon (.ref i) = false := rfl
theorem seq_one {i : Nat} {d : D} {u : DS} {E : DEnds} {σ : Sd} {G : Gp} (h : u E (σ.set i (some d)) G) : dSeq (dAsg (dC d) (dName i)) u E σ G := h
/-- a loop over typed things, by an invariant that tells how many are done -/
theorem for_typ {α : Type} {g : DG} {tb : DS} {gd : Gp → Prop} {E : DEnds} (d : α → D) (xs : List α) (I : Nat → Sd → Gp → Prop) (hgd : ∀ k σ G, I k σ G → gd G)
    (turn : ∀ (k : Nat) (x : α) (σ : Sd) (G : Gp), xs[k]? = some x → I k σ G → ∀ N : Sd → Gp → Prop, (∀ σ' G', I (k + 1) σ' G' → N σ' G') → g (d x) σ G fun σ2 G2 => tb { E with nx := N, ct := N, bk := E.nx } σ2 G2)
    (fin : ∀ σ G, I xs.length σ G → E.nx σ G) (σ : Sd) (G : Gp) (h : I 0 σ G) : dForGo g tb gd E (xs.map d) σ G := by
  have key : ∀ (m k : Nat) (σ : Sd) (G : Gp), xs.length - k = m → k ≤ xs.length → I k σ G → dForGo g tb gd E ((xs.drop k).map d) σ G := by
    intro m
    induction m with
    | zero =>
      intro k σ G hm hk i
      have e : k = xs.length := by omega
      subst e
      rw [List.drop_length]
      exact ⟨hgd _ _ _ i, fin σ G i⟩
    | succ m ih =>
      intro k σ G hm hk i
      have hlt : k < xs.length := by omega
      rw [List.drop_eq_getElem_cons hlt, List.map_cons]
      exact ⟨hgd _ _ _ i, turn k xs[k] σ G (List.getElem?_eq_getElem hlt) i _ fun σ' G' i' => ih (k + 1) σ' G' (by omega) (by omega) i'⟩
  have := key xs.length 0 σ G (by omega) (by omega) h
  rwa [List.drop_zero] at this
theorem for_rng {g : DG} {tb : DS} {E : DEnds} (n : Nat) (I : Nat → Sd → Gp → Prop)
    (turn : ∀ (k : Nat) (σ : Sd) (G : Gp), k < n → I k σ G → ∀ N : Sd → Gp → Prop, (∀ σ' G', I (k + 1) σ' G' → N σ' G') → g (.int (k : Nat)) σ G fun σ2 G2 => tb { E with nx := N, ct := N, bk := E.nx } σ2 G2)
    (fin : ∀ σ G, I n σ G → E.nx σ G) (σ : Sd) (G : Gp) (h : I 0 σ G) : dForGo g tb (fun _ => True) E (rng 0 n) σ G := by
  have e : rng 0 n = (List.range n).map fun i => D.int (i : Nat) := by unfold rng; exact List.map_congr_left fun i _ => by rw [Int.zero_add]
  rw [e]
  refine for_typ (fun i : Nat => D.int (i : Nat)) (List.range n) I (fun _ _ _ _ => trivial) (fun k x σ G hx i N hN => ?_) (fun σ G i => fin σ G (by rw [List.length_range] at i; exact i)) σ G h
  have hk := (List.getElem?_eq_some_iff.mp hx).1
  rw [List.length_range] at hk
  rw [List.getElem?_range hk] at hx
  cases hx
  exact turn k σ G hk i N hN
theorem setN_go {p : Addr} {ds : List D} {k : Nat} {v : D} {G : Gp} {R : Gp → Prop} (e : G p = some (.lst ds)) (h : k < ds.length) (q : R (gup G p (.lst (ds.set k v)))) : dSetI (.ref p) (.int (k : Nat)) v G R := by
  have hix : ixN ds.length (k : Nat) = some k := by unfold ixN; rw [if_pos (by omega), if_pos (by omega)]; simp
  unfold dSetI
  simp only [e, hix]
  exact q
theorem ixN_go {p : Addr} {ds : List D} {k : Nat} {v : D} {G : Gp} {R : DK} (e : G p = some (.lst ds)) (h : ds[k]? = some v) (q : R v G) : dIx (.ref p) (.int (k : Nat)) G R := by
  rw [ix_r, e, atL_lst, atI_nat h]
  exact q
theorem rt_sub {R : DK} {d : D} {G G0 : Gp} (s : Sub G0 G) (h : R d G0) : Rt R d G := ret_sub s h
theorem Sub.put {G G' : Gp} {p : Addr} {o : GO} (s : Sub G G') (h : G p = none) : Sub G (gup G' p o) := fun a u e => by rw [gup_ne (gne e h)]; exact s a u e
end DL

set_option Elab.async false
set_option linter.all false
set_option maxRecDepth 100000
set_option maxHeartbeats 4000000
set_option autoImplicit false
namespace DL
open PySem PySem.Spec PyProof.Rows L2
/-! ### lists that are known, added -/
theorem eq_empty {ds : List D} {G : Gp} {R : DK} (h : pyDs ds = true) (hd : depDs ds ≤ 60) : dEq (.lst ds) (.lst []) G R = R (.bl (decide (ds = []))) G := by
  rw [eq_pure (by simpa only [pyD] using h) rfl (by simp only [depD]; omega) (by simp [depD, depDs])]
  cases ds with
  | nil => simp [eqD, eqDs]
  | cons d ds => simp [eqD, eqDs]
theorem ints_py : ∀ (ns : List Int), pyDs (ns.map D.int) = true ∧ depDs (ns.map D.int) ≤ 1
  | [] => ⟨rfl, by simp [depDs]⟩
  | x :: L => by
    obtain ⟨h1, h2⟩ := ints_py L
    simp only [List.map_cons, pyDs, depDs, Bool.and_eq_true]
    exact ⟨⟨by simp [pyD], h1⟩, by simp only [depD]; omega⟩
end DL

set_option Elab.async false
set_option linter.all false
set_option maxRecDepth 100000
set_option maxHeartbeats 4000000
set_option autoImplicit false
namespace DL
open PySem PySem.Spec PyProof.Rows L2
theorem rt_keep {R : DK} {d : D} {G : Gp} {s p : Addr} {o u : GO} (h : s ≠ p) (hp : G p = none) (k : R d (gup G s o)) : Rt R d (gup (gup G p u) s o) := ret_sub (sub_keep h hp) k
/-! ### {..}.get(e, f) -/
section
variable {X : Cx} {pos : Pos} {keys : List (Option Expr)} {values : List Expr}
end
end DL

set_option Elab.async false
set_option linter.all false
set_option maxRecDepth 100000
set_option maxHeartbeats 4000000
set_option autoImplicit false
namespace DL
open PySem PySem.Spec PyProof.Rows L2
/-! ### a, b = x, y and a, b, c = x, y, z -/
section
variable {X : Cx} {pos : Pos}
def dPar (is : List Nat) (t : DA) : DS := fun E σ G => t σ G fun ds G1 => ds.length = is.length ∧ E.nx (setAll σ is ds) G1
theorem x_par {is : List Nat} {t : DA} {E : DEnds} {σ : Sd} {G : Gp} : dPar is t E σ G = t σ G fun ds G1 => ds.length = is.length ∧ E.nx (setAll σ is ds) G1 := rfl
end
end DL

set_option Elab.async false
set_option linter.all false
set_option maxRecDepth 100000
set_option maxHeartbeats 4000000
set_option autoImplicit false
namespace DL
open PySem PySem.Spec PyProof.Rows L2
/-! ### all that was known is known still, but for one thing -/
def Ext (s : Addr) (G G' : Gp) : Prop := ∀ a o, a ≠ s → G a = some o → G' a = some o
section
variable {s p : Addr} {G G' : Gp} {o u : GO} {R : DK} {d : D}
theorem Ext.refl (s : Addr) (G : Gp) : Ext s G G := fun _ _ _ h => h
theorem Ext.self (h : Ext s G G') : Ext s G (gup G' s o) := fun a u n e => by rw [gup_ne n]; exact h a u n e
theorem Ext.put (h : Ext s G G') (hp : G p = none) : Ext s G (gup G' p o) := fun a u n e => by rw [gup_ne (gne e hp)]; exact h a u n e
theorem Ext.new (h : Ext s G G') (hp : G' p = none) (hs : s ≠ p) : Ext s G (gup G' p o) := fun a u n e => by
  have := h a u n e
  rw [gup_ne (fun z => by rw [z, hp] at this; cases this)]; exact this
theorem Ext.sub (h : Ext s G G') (e : G' s = some o) : Sub (gup G s o) G' := fun a u ea => by
  by_cases z : a = s
  · subst z; rw [gup_same] at ea; cases ea; exact e
  · rw [gup_ne z] at ea; exact h a u z ea
theorem Ext.nn (h : Ext s G G') (n : p ≠ s) (hp : G' p = none) : G p = none := by
  cases e : G p with
  | none => rfl
  | some u => rw [h p u n e] at hp; cases hp
theorem rt_ext (h : Ext s G G') (e : G' s = some o) (k : R d (gup G s o)) : Rt R d G' := ret_sub (h.sub e) k
theorem fr_ne (e : G' s = some o) (hp : G' p = none) : s ≠ p := fun z => by subst z; rw [e] at hp; cases hp
end
theorem for_lst {α : Type} {g : DG} {tb : DS} {E : DEnds} (d : α → D) (xs : List α) (I : Nat → Sd → Gp → Prop)
    (turn : ∀ (k : Nat) (x : α) (σ : Sd) (G : Gp), xs[k]? = some x → I k σ G → ∀ N : Sd → Gp → Prop, (∀ σ' G', I (k + 1) σ' G' → N σ' G') → g (d x) σ G fun σ2 G2 => tb { E with nx := N, ct := N, bk := E.nx } σ2 G2)
    (fin : ∀ σ G, I xs.length σ G → E.nx σ G) (σ : Sd) (G : Gp) (h : I 0 σ G) : dForGo g tb (fun _ => True) E (xs.map d) σ G := for_typ d xs I (fun _ _ _ _ => trivial) turn fin σ G h
end DL

set_option Elab.async false
set_option linter.all false
set_option maxRecDepth 100000
set_option maxHeartbeats 4000000
set_option autoImplicit false
namespace DL
open PySem PySem.Spec PyProof.Rows L2
/-! ### loops over enumerate, by an invariant that tells how many are done -/
end DL

set_option Elab.async false
set_option linter.all false
set_option maxRecDepth 100000
set_option maxHeartbeats 4000000
set_option autoImplicit false
namespace DL
open PySem PySem.Spec PyProof.Rows L2
/-! ### is, is not of truths -/
section
variable {X : Cx}
end
theorem cut_take {α : Type} (l : List α) (a : Nat) : cutL l none (some (a : Int)) = l.take a := by
  unfold cutL
  rw [HT.sIx_nat]
  simp only [HT.sIx, List.drop_zero, Nat.sub_zero]
  by_cases h : a ≤ l.length
  · rw [Nat.min_eq_left h]
  · rw [Nat.min_eq_right (by omega), List.take_of_length_le (Nat.le_refl _), List.take_of_length_le (by omega)]
theorem cut_drop {α : Type} (l : List α) (a : Nat) : cutL l (some (a : Int)) none = l.drop a := by
  unfold cutL
  rw [HT.sIx_nat]
  simp only [HT.sIx]
  by_cases h : a ≤ l.length
  · rw [Nat.min_eq_left h]
    exact List.take_of_length_le (by rw [List.length_drop]; exact Nat.le_refl _)
  · rw [Nat.min_eq_right (by omega), List.drop_length, List.drop_eq_nil_of_le (by omega)]; simp
end DL

set_option Elab.async false
set_option linter.all false
set_option maxRecDepth 100000
set_option maxHeartbeats 4000000
set_option autoImplicit false
namespace DL
open PySem PySem.Spec PyProof.Rows L2
section
variable {X : Cx}
/-! ### max of three, max with a default -/
end
end DL

set_option Elab.async false
set_option linter.all false
set_option maxRecDepth 100000
set_option maxHeartbeats 4000000
set_option autoImplicit false
namespace DL
open PySem PySem.Spec PyProof.Rows L2
/-! ### instances: attributes, methods, making -/
section
variable {X : Cx} {C : Addr} {f m : Str} {e o value : Expr} {es : List Expr} {pos pos' apos p : Pos} {ta tv : DE} {t : DA} {x : Str} {k : Nat} {g : Addr} {fd : FuncData} {ps : List Str} {sp : DSp}
end
end DL

set_option Elab.async false
set_option linter.all false
set_option maxRecDepth 100000
set_option maxHeartbeats 4000000
set_option autoImplicit false
namespace DL
open PySem PySem.Spec PyProof.Rows L2
/-! ### list(it): what an iterator gives, laid in a new list -/
section
variable {X : Cx} {pins : List (Addr × Obj)} {σ : L2.St} {H : Hp}
/-- an address of ours -/
structure Yg (X : Cx) (pins : List (Addr × Obj)) (b : Addr) : Prop where
  l : b ≠ X.env.locals
  f : b ∉ X.fs
  y : b ∈ X.ex ∨ X.s_0.heap.objs.size ≤ b
  c : ∀ x c, X.env.cells.lookup x = some c → c ≠ b
  p : ∀ p ∈ X.pn ++ pins, p.1 ≠ b
theorem Yg.fp {b : Addr} {H : Hp} (h : Yg X pins b) (n : H b = none) : FpOk X pins H b := ⟨n, h.l, h.f, h.y, h.c, h.p⟩
theorem Yg.cons {b S : Addr} {o : Obj} (h : Yg X pins b) (n : S ≠ b) : Yg X ((S, o) :: pins) b := ⟨h.l, h.f, h.y, h.c, fun p hp => by
  rcases List.mem_append.mp hp with hp | hp
  · exact h.p p (List.mem_append_left _ hp)
  · rcases List.mem_cons.mp hp with rfl | hp
    · exact n
    · exact h.p p (List.mem_append_right _ hp)⟩
/-! ### enumerate of a list -/
variable {a : Expr} {p p2 pos pos2 : Pos}
end
end DL

set_option Elab.async false
set_option linter.all false
set_option maxRecDepth 100000
set_option maxHeartbeats 4000000
set_option autoImplicit false
namespace DL
open PySem PySem.Spec PyProof.Rows L2
/-! ### dicts with texts and numbers as keys, kept -/
def kD : Key → D
  | .inl i => .int i
  | .inr x => .str x
def valD (kvs : List (Key × D)) (k : Key) : Option D := (kvs.find? fun kv => decide (kv.1 = k)).map (·.2)
def putKD (kvs : List (Key × D)) (k : Key) (v : D) : List (Key × D) := if (kvs.any fun kv => decide (kv.1 = k)) = true then kvs.map (fun kv => if kv.1 = k then (kv.1, v) else kv) else kvs ++ [(k, v)]
theorem valD_cons (p : Key × D) (l : List (Key × D)) (k : Key) : valD (p :: l) k = if p.1 = k then some p.2 else valD l k := by
  unfold valD
  rw [List.find?_cons]
  by_cases h : p.1 = k
  · simp [h]
  · simp [h]
theorem of_kD {K : PySem.W.Frag} {H : Hp} {N : Ns} {k : Key} {v : V} (r : RD K H N (kD k) v) : v = kV k := by
  cases k with
  | inl i => exact r.of_int
  | inr z => exact r.of_str
theorem val_rel {K : PySem.W.Frag} {H : Hp} {N : Ns} {k : Key} : ∀ {kvs : List (Key × D)} {kvs' : List (Key × V)}, RKV K H N kvs kvs' → (∀ d, valD kvs k = some d → ∃ v, valV kvs' k = some v ∧ RD K H N d v) ∧ (valD kvs k = none → valV kvs' k = none)
  | [], kvs', r => by
    cases r
    exact ⟨fun d h => (by cases h), fun _ => rfl⟩
  | p :: l, kvs', r => by
    cases r with
    | cons h t =>
      rename_i q l'
      have ih := val_rel (k := k) t
      rw [valD_cons]
      by_cases e : p.1 = k
      · rw [if_pos e, valV_pos (h.1 ▸ e)]
        exact ⟨fun d hd => ⟨_, rfl, by cases hd; exact h.2⟩, fun hd => by cases hd⟩
      · rw [if_neg e, valV_neg (fun z => e (h.1.trans z))]
        exact ih
theorem any_rel {K : PySem.W.Frag} {H : Hp} {N : Ns} {k : Key} : ∀ {kvs : List (Key × D)} {kvs' : List (Key × V)}, RKV K H N kvs kvs' → (kvs.any fun kv => decide (kv.1 = k)) = (kvs'.any fun kv => decide (kv.1 = k))
  | [], kvs', r => by cases r; rfl
  | p :: l, kvs', r => by
    cases r with
    | cons h t => rw [List.any_cons, List.any_cons, any_rel t, h.1]
theorem map_rel {K : PySem.W.Frag} {H : Hp} {N : Ns} {k : Key} {d : D} {v : V} (rv : RD K H N d v) : ∀ {kvs : List (Key × D)} {kvs' : List (Key × V)}, RKV K H N kvs kvs' → RKV K H N (kvs.map fun kv => if kv.1 = k then (kv.1, d) else kv) (kvs'.map fun kv => if kv.1 = k then (kv.1, v) else kv)
  | [], kvs', r => by cases r; exact .nil
  | p :: l, kvs', r => by
    cases r with
    | cons h t =>
      refine .cons ?_ (map_rel rv t)
      rename_i q l'
      dsimp only
      by_cases e : q.1 = k
      · rw [if_pos e, if_pos (h.1.trans e)]; exact ⟨h.1, rv⟩
      · rw [if_neg e, if_neg (fun z => e (h.1.symm.trans z))]; exact h
theorem put_rel {K : PySem.W.Frag} {H : Hp} {N : Ns} {k : Key} {d : D} {v : V} (rv : RD K H N d v) {kvs : List (Key × D)} {kvs' : List (Key × V)} (r : RKV K H N kvs kvs') : RKV K H N (putKD kvs k d) (putK kvs' k v) := by
  unfold putKD putK
  rw [any_rel r]
  split
  · exact map_rel rv r
  · exact Paired.app r (.cons ⟨rfl, rv⟩ .nil)
section
variable {X : Cx} {pos : Pos} {keys : List (Option Expr)} {values : List Expr}
end
end DL

set_option Elab.async false
set_option linter.all false
set_option maxRecDepth 100000
set_option maxHeartbeats 4000000
set_option autoImplicit false
namespace DL
open PySem PySem.Spec PyProof.Rows L2
/-! ### sum(list, ()) of one tuple at most -/
section
variable {prog : Program} {w : World} {A : Around} {E : Value → Shared → Prop} {s : Shared}
end
section
variable {X : Cx}
end
end DL

set_option Elab.async false
set_option linter.all false
set_option maxRecDepth 100000
set_option maxHeartbeats 4000000
set_option autoImplicit false
namespace DL
open PySem PySem.Spec PyProof.Rows L2
/-! ### sorted(xs) of tuples (number, text, more), told apart by the number and the text -/
section
variable {prog : Program} {w : World} {A : Around} {s : Shared}
end
section
variable {X : Cx} {k : Nat}
end
/-! by data -/
end DL

set_option Elab.async false
set_option linter.all false
set_option maxRecDepth 100000
set_option maxHeartbeats 4000000
set_option autoImplicit false
namespace DL
open PySem PySem.Spec PyProof.Rows L2
/-! ### {k: v}, a dict with a nested key -/
section
variable {X : Cx} {pos : Pos}
end
end DL

set_option Elab.async false
set_option linter.all false
set_option maxRecDepth 100000
set_option maxHeartbeats 4000000
set_option autoImplicit false
namespace DL
/-! ### rows of numbers that hold: the plain law -/
theorem nodup_filter {α : Type} {l : List α} (p : α → Bool) (h : l.Nodup) : (l.filter p).Nodup := h.sublist List.filter_sublist
structure Sys where
  B : Nat → Nat → Bool
  L : Nat → Nat → Bool
  F : List Nat → Bool
  Blt : ∀ k o, B k o = true → o < k
  Llt : ∀ k o, L k o = true → o < k
  Fsub : ∀ a b, a.Sublist b → F b = true → F a = true
  Fperm : ∀ a b, a.Perm b → F a = F b
  F1 : ∀ k, F [k] = true
def restN (left row : List Nat) : List Nat := left.filter fun k => decide (k ∉ row)
variable (S : Sys)
/-- a first row of what is left -/
structure FR (left row : List Nat) : Prop where
  sub : row.Sublist left
  beh : ∀ k ∈ row, ∀ o ∈ left, S.B k o = false
  lev : ∀ k ∈ row, ∀ o ∈ left, S.L k o = true → o ∈ row
  fit : S.F row = true
def canJ (left row : List Nat) (k : Nat) : Prop := (∀ o ∈ left, S.L k o = true → o ∈ row) ∧ S.F (row ++ [k]) = true
def readyP (left : List Nat) (k : Nat) : Prop := k ∈ left ∧ ∀ o ∈ left, S.B k o = false
variable {S}
/-- one order more in a first row -/
def insN (left row : List Nat) (k : Nat) : List Nat := left.filter fun j => decide (j ∈ row ∨ j = k)
theorem mem_insN {left row : List Nat} {k j : Nat} : j ∈ insN left row k ↔ j ∈ left ∧ (j ∈ row ∨ j = k) := by
  unfold insN
  rw [List.mem_filter]
  simp
theorem insN_perm {left row : List Nat} {k : Nat} (hn : left.Nodup) (hs : row.Sublist left) (hk : k ∈ left) (hk2 : k ∉ row) : (insN left row k).Perm (row ++ [k]) := by
  have n1 : (insN left row k).Nodup := nodup_filter _ hn
  have n2 : (row ++ [k]).Nodup := by
    rw [List.nodup_append]
    refine ⟨hn.sublist hs, by simp, fun a ha b hb e => ?_⟩
    rw [List.mem_singleton.mp hb] at e
    exact hk2 (e ▸ ha)
  refine (List.perm_ext_iff_of_nodup n1 n2).mpr fun j => ?_
  rw [mem_insN, List.mem_append, List.mem_singleton]
  constructor
  · exact fun h => h.2
  · intro h
    refine ⟨?_, h⟩
    rcases h with h | h
    · exact hs.subset h
    · rw [h]; exact hk
theorem FR.ins {left row : List Nat} {k : Nat} (h : FR S left row) (hn : left.Nodup) (hr : readyP S left k) (hk : k ∉ row) (hc : canJ S left row k) : FR S left (insN left row k) := by
  refine ⟨List.filter_sublist, fun j hj o ho => ?_, fun j hj o ho hl => ?_, ?_⟩
  · rcases (mem_insN.mp hj).2 with c | rfl
    · exact h.beh j c o ho
    · exact hr.2 o ho
  · refine mem_insN.mpr ⟨ho, .inl ?_⟩
    rcases (mem_insN.mp hj).2 with c | rfl
    · exact h.lev j c o ho hl
    · exact hc.1 o ho hl
  · rw [S.Fperm _ _ (insN_perm hn h.sub hr.1 hk)]
    exact hc.2
/-- a way to part what is left into m rows -/
structure Asg (S : Sys) (left : List Nat) (m : Nat) (at_ : Nat → Nat) : Prop where
  lt : ∀ k ∈ left, at_ k < m
  fit : ∀ r, S.F (left.filter fun k => decide (at_ k = r)) = true
  beh : ∀ j ∈ left, ∀ k ∈ left, S.B j k = true → at_ k < at_ j
  lev : ∀ j ∈ left, ∀ k ∈ left, S.L j k = true → at_ k ≤ at_ j
theorem Asg.first {left : List Nat} {m : Nat} {at_ : Nat → Nat} (h : Asg S left m at_) : FR S left (left.filter fun k => decide (at_ k = 0)) := by
  refine ⟨List.filter_sublist, fun k hk o ho => ?_, fun k hk o ho hl => ?_, h.fit 0⟩
  · rw [List.mem_filter, decide_eq_true_iff] at hk
    cases e : S.B k o with
    | false => rfl
    | true => have := h.beh k hk.1 o ho e; omega
  · rw [List.mem_filter, decide_eq_true_iff] at hk
    have := h.lev k hk.1 o ho hl
    exact List.mem_filter.mpr ⟨ho, decide_eq_true (by omega)⟩
/-- rows, one behind the other, that use up what is left -/
def Chn (S : Sys) : List Nat → List (List Nat) → Prop
  | left, [] => left = []
  | left, row :: rows => FR S left row ∧ row ≠ [] ∧ Chn S (restN left row) rows
/-- m rows, and no fewer -/
def IsFew (S : Sys) (left : List Nat) (m : Nat) : Prop := (∃ rows, Chn S left rows ∧ rows.length = m) ∧ ∀ at_ c, Asg S left c at_ → m ≤ c
theorem IsFew.uniq {left : List Nat} {m n : Nat} (hc : ∀ rows, Chn S left rows → ∃ at_, Asg S left rows.length at_) (h : IsFew S left m) (k : IsFew S left n) : m = n := by
  obtain ⟨⟨r1, c1, l1⟩, b1⟩ := h
  obtain ⟨⟨r2, c2, l2⟩, b2⟩ := k
  obtain ⟨a1, g1⟩ := hc _ c1
  obtain ⟨a2, g2⟩ := hc _ c2
  have := b1 _ _ g2
  have := b2 _ _ g1
  omega
end DL

set_option Elab.async false
set_option linter.all false
set_option maxRecDepth 100000
set_option maxHeartbeats 4000000
set_option autoImplicit false
namespace DL
open PySem PySem.Spec PyProof.Rows L2
/-! ### all full first rows, as they are gone through -/
section
variable {S : Sys} {left : List Nat} {c : List Nat → Nat → Bool}
end
/-! ### parts of a list, counted -/
/-! ### dicts with nested keys and any values, typed -/
section
variable {α β : Type} [DecidableEq α]
variable {d : α → D} {v : β → D} (heq : ∀ a b, eqD (d a) (d b) = decide (a = b))
include heq
variable {w : World} {G : Gp} {a : Addr} {l : List (α × β)} {k : α}
end
end DL

set_option Elab.async false
set_option linter.all false
set_option maxRecDepth 100000
set_option maxHeartbeats 4000000
set_option autoImplicit false
namespace DL
open PySem PySem.Spec PyProof.Rows L2
/-! ### a list comprehension whose elements lay new things, by an invariant -/
end DL

set_option Elab.async false
set_option linter.all false
set_option maxRecDepth 100000
set_option maxHeartbeats 4000000
set_option autoImplicit false
namespace DL
open PySem PySem.Spec PyProof.Rows L2
/-! ### the keys of a dict, whatever they are, gone through -/
section
variable {prog : Program} {w : World} {A : Around} {E : Value → Shared → Prop} {s : Shared} {d I : Addr} {o : Obj} {es : Array DictEntry} {ep i : Nat}
end
section
variable {X : Cx}
end
end DL

set_option Elab.async false
set_option linter.all false
set_option maxRecDepth 100000
set_option maxHeartbeats 4000000
set_option autoImplicit false
namespace DL
open PySem PySem.Spec PyProof.Rows L2
/-! ### all first rows, and what may be left behind some -/
/-! ### d[k] = v again -/
section
variable {α β : Type} [DecidableEq α] {d : α → D} {v : β → D} (heq : ∀ a b, eqD (d a) (d b) = decide (a = b))
include heq
variable {w : World} {G : Gp} {a : Addr} {l : List (α × β)} {k : α}
end
end DL

set_option Elab.async false
set_option linter.all false
set_option maxRecDepth 100000
set_option maxHeartbeats 4000000
set_option autoImplicit false
namespace DL
open PySem PySem.Spec PyProof.Rows L2
/-! ### a list that is known, lent to a def that only reads it -/
section
variable {X : Cx} {k : Nat} {f : Addr} {fd : FuncData} {ps : List Str} {sp : DSp} {x : Str} {p pos : Pos} {e : Expr} {es : List Expr} {t : DA}
end
end DL

set_option Elab.async false
set_option linter.all false
set_option maxRecDepth 100000
set_option maxHeartbeats 4000000
set_option autoImplicit false
namespace DL
open PySem PySem.Spec PySem.Calls PyProof.Rows PySem.SeqAt PySem.W L2
/-! ### tuples sorted, the empty one among them -/
section
variable {prog : Program} {w : World} {A : Around} {E : Value → Shared → Prop} {s : Shared}
end
/-! ### sorted(d), the keys of d tuples of numbers -/
section
variable {X : Cx} {k : Nat}
end
/-! by data -/
section
variable {X : Cx} {k : Nat}
end
end DL

set_option Elab.async false
set_option linter.all false
set_option maxRecDepth 100000
set_option maxHeartbeats 4000000
set_option autoImplicit false
namespace DL
open PySem PySem.Spec PyProof.Rows L2
/-! ### d[k] = v and d.get(k, y), whether k is there or not -/
section
variable {α β : Type} [DecidableEq α]
variable {d : α → D} {v : β → D} (heq : ∀ a b, eqD (d a) (d b) = decide (a = b))
include heq
variable {w : World} {G : Gp} {a : Addr} {l : List (α × β)} {k : α}
end
end DL

set_option Elab.async false
set_option linter.all false
set_option maxRecDepth 100000
set_option maxHeartbeats 4000000
set_option autoImplicit false
namespace DL
open PySem PySem.Spec PyProof.Rows L2
/-! ### for k in d -/
/-! ### sorted of a list or tuple of alike things -/
section
variable {X : Cx} {k : Nat}
end
end DL

set_option Elab.async false
set_option linter.all false
set_option maxRecDepth 100000
set_option maxHeartbeats 4000000
set_option autoImplicit false
namespace DL
open PySem PySem.Spec PyProof.Rows L2
/-! ### dict of a list of pairs -/
section
variable {X : Cx} {pins : List (Addr × Obj)} {σ : L2.St} {H : Hp} {s : Shared} {N : Ns} {a : Addr} {kvs : List (D × D)} {kvs' : List (Int × V × V)}
end
/-! typed -/
section
variable {α β : Type} [DecidableEq α] {d : α → D} {v : β → D} (heq : ∀ a b, eqD (d a) (d b) = decide (a = b))
include heq
end
end DL

set_option Elab.async false
set_option linter.all false
set_option maxRecDepth 100000
set_option maxHeartbeats 4000000
set_option autoImplicit false
namespace DL
open PySem PySem.Spec PyProof.Rows L2
/-! ### sorted(xs, key=len), xs tuples -/
section
variable {X : Cx} {k : Nat}
end
/-! by data -/
section
variable {X : Cx} {k : Nat}
end
end DL

set_option Elab.async false
set_option linter.all false
set_option maxRecDepth 100000
set_option maxHeartbeats 4000000
set_option autoImplicit false
namespace DL
open PySem PySem.Spec PyProof.Rows L2
/-! ### ("a", "b"): a tuple of texts of which it is known that it has no dict -/
section
variable {X : Cx} {es : List Expr} {tr : DA} {pos : Pos}
def dTupN (t : DA) : DE := fun σ G R => t σ G fun ds G1 => ds.length ≤ sizeLine ∧ ∃ zs : List Str, strsOf ds = some zs ∧ R (.nt zs) G1
theorem qe_tupN {x1} (h : QA X es tr) : QE X (.Tuple es x1 pos) (dTupN tr) := by
  refine ⟨fun pins s τ H Q I hq => ?_⟩
  obtain ⟨σ, G, N, R, hs, hg, ht, q⟩ := hq
  refine wpAny_Tuple_spliced (thn (h.run pos pins s τ H (fun xs H1 => ∃ G1 N1 zs, xs = zs.map V.str ∧ zs.length ≤ sizeLine ∧ Stp X.K H N G H1 N1 G1 ∧ R (.nt zs) G1) I ⟨σ, G, N, _, hs, hg, ht, fun ds G1 N1 vs H1 h1 s1 r1 => ?_⟩) fun us s1 ⟨xs, H1, I1, r, G1, N1, zs, e, z, st, hR⟩ => ?_)
  · obtain ⟨hl, zs, e, hR⟩ := h1
    have hds := strsOf_ok e
    subst hds
    obtain rfl := r1.of_strs
    exact ⟨G1, N1, zs, rfl, by rw [List.length_map] at hl; exact hl, s1, hR⟩
  · subst e
    have hlen := r.length
    rw [List.length_map] at hlen
    refine ⟨by omega, ?_⟩
    have hf : H1 s1.heap.objs.size = none := I1.hok.fresh (Nat.le_refl _)
    have I2 : L2.Inv X pins τ (upd H1 s1.heap.objs.size (.frz { cls := .type "tuple", data := .seq us.toArray } (.tup (zs.map V.str)))) { s1 with heap := s1.heap.push { cls := .type "tuple", data := .seq us.toArray } } :=
      I1.laid (t' := s1.toks) (fun b u e => Heap.get?_push_of_some _ e) (Nat.le_refl _) ⟨Heap.get?_push_size _ rfl, show ObjOk X.prog X.w _ _ _ (.tup _) from ⟨by rw [List.length_map]; exact z, us, r, IsTup.new _ _⟩⟩
    refine ⟨.ref s1.heap.objs.size, _, I2, rfl, q _ _ _ _ _ hR (st.trans (Stp.new0 st.rel hf)) ?_⟩
    simp only [RD]
    exact ⟨_, rfl, .inl ⟨_, upd_same, rfl, rfl⟩⟩
end
theorem x_tupN {t : DA} {σ : Sd} {G : Gp} {R : DK} : dTupN t σ G R = t σ G fun ds G1 => ds.length ≤ sizeLine ∧ ∃ zs : List Str, strsOf ds = some zs ∧ R (.nt zs) G1 := rfl
end DL

set_option Elab.async false
set_option linter.all false
set_option maxRecDepth 100000
set_option maxHeartbeats 4000000
set_option autoImplicit false
namespace DL
open PySem PySem.Spec PyProof.Rows L2
/-! ### exceptions, by data: a wish tells the class, the fields of its own, the slots, what is known -/
abbrev DXW := Value → List (Str × D) → Sd → Gp → Prop
abbrev DXC := Value → List (Str × D) → Gp → Prop
/-- the dict of an exception's own fields -/
def XdAt (K : PySem.W.Frag) (H : Hp) (N : Ns) (G : Gp) : Option Addr → List (Str × D) → Prop
  | none, fs => fs = []
  | some a, fs => fs ≠ [] ∧ G a = none ∧ ∃ fs', H a = some (.xd fs') ∧ RKV K H N fs fs'
def UpX (K : PySem.W.Frag) (H : Hp) (N : Ns) (G : Gp) (RX : DXW) (W : WX) : Prop := ∀ cls fs σ' G' N' τ' H' d, RX cls fs σ' G' → Stp K H N G H' N' G' → RSt K H' N' σ' τ' → XdAt K H' N' G' d fs → W cls d τ' H'
def UpXC (K : PySem.W.Frag) (H : Hp) (N : Ns) (G : Gp) (RX : DXC) (E : XK) : Prop := ∀ cls fs G' N' H' d, RX cls fs G' → Stp K H N G H' N' G' → XdAt K H' N' G' d fs → E cls d H'
theorem UpX.le {K : PySem.W.Frag} {H H1 : Hp} {N N1 : Ns} {G G1 : Gp} {RX : DXW} {W : WX} (q : UpX K H N G RX W) (s : Stp K H N G H1 N1 G1) : UpX K H1 N1 G1 RX W := fun cls fs σ' G' N' τ' H' d r s' rs x => q cls fs σ' G' N' τ' H' d r (s.trans s') rs x
def upX (K : PySem.W.Frag) (W : WX) (t : DXW → DE) : TE := fun τ H Q => ∃ σ G N R RX, RSt K H N σ τ ∧ RelG K H N G ∧ t RX σ G R ∧ UpQ K H N G R Q ∧ UpX K H N G RX W
def upTX (K : PySem.W.Frag) (W : WX) (t : DXW → DT) : TT := fun τ H Q => ∃ σ G N R RX, RSt K H N σ τ ∧ RelG K H N G ∧ t RX σ G R ∧ (∀ b G' N' H', R b G' → Stp K H N G H' N' G' → Q b H') ∧ UpX K H N G RX W
def upAX (K : PySem.W.Frag) (W : WX) (t : DXW → DA) : TA := fun τ H Q => ∃ σ G N R RX, RSt K H N σ τ ∧ RelG K H N G ∧ t RX σ G R ∧ (∀ ds G' N' vs H', R ds G' → Stp K H N G H' N' G' → RDs K H' N' ds vs → Q vs H') ∧ UpX K H N G RX W
def upSX (K : PySem.W.Frag) (W : WX) (t : DXW → DS) : TS := fun D τ H => ∃ σ G N E RX, RSt K H N σ τ ∧ RelG K H N G ∧ t RX E σ G ∧ UpE K H N G E D ∧ UpX K H N G RX W
def QEX (X : Cx) (W : WX) (e : Expr) (t : DXW → DE) : Prop := PE X e (upX X.K W t)
def QTX (X : Cx) (W : WX) (e : Expr) (t : DXW → DT) : Prop := PT X e (upTX X.K W t)
def QAX (X : Cx) (W : WX) (es : List Expr) (t : DXW → DA) : Prop := PA X es (upAX X.K W t)
def QSX (X : Cx) (W : WX) (st : Stmt) (t : DXW → DS) : Prop := PS X st (upSX X.K W t)
def QSsX (X : Cx) (W : WX) (st : List Stmt) (t : DXW → DS) : Prop := PSs X st (upSX X.K W t)
section
variable {X : Cx} {W : WX} {e a b c : Expr} {pos : Pos} {t ta tb : DXW → DE} {u u' : DXW → DT}
/-! ### what raises nothing -/
theorem ex_of {te : DE} (h : QE X e te) : QEX X W e (fun _ => te) := pe_mono h fun τ H Q ⟨σ, G, N, R, RX, hs, hg, ht, q, _⟩ => ⟨σ, G, N, R, hs, hg, ht, q⟩
theorem tx_of {te : DT} (h : QT X e te) : QTX X W e (fun _ => te) := pt_mono h fun τ H Q ⟨σ, G, N, R, RX, hs, hg, ht, q, _⟩ => ⟨σ, G, N, R, hs, hg, ht, q⟩
theorem ax_of {es : List Expr} {te : DA} (h : QA X es te) : QAX X W es (fun _ => te) := pa_mono h fun τ H Q ⟨σ, G, N, R, RX, hs, hg, ht, q, _⟩ => ⟨σ, G, N, R, hs, hg, ht, q⟩
theorem sx_of {st : Stmt} {te : DS} (h : QS X st te) : QSX X W st (fun _ => te) := ps_mono h fun D τ H ⟨σ, G, N, E, RX, hs, hg, ht, q, _⟩ => ⟨σ, G, N, E, hs, hg, ht, q⟩
theorem ssx_of {st : List Stmt} {te : DS} (h : QSs X st te) : QSsX X W st (fun _ => te) := pss_mono h fun D τ H ⟨σ, G, N, E, RX, hs, hg, ht, q, _⟩ => ⟨σ, G, N, E, hs, hg, ht, q⟩
/-! ### expressions -/
theorem up_opX {K : PySem.W.Frag} {r : DR2} {τ : L2.St} {H : Hp} {Q : VK} (z : upX K W (fun RX => dOp r (ta RX) (tb RX)) τ H Q) : tOp (upR2 K r) (upX K W ta) (upX K W tb) τ H Q := by
  obtain ⟨σ, G, N, R, RX, hs, hg, ht, q, qx⟩ := z
  refine ⟨σ, G, N, _, RX, hs, hg, ht, fun x G1 N1 v1 H1 h1 s1 r1 => ?_, qx⟩
  refine ⟨σ, G1, N1, _, RX, hs.le s1.kp, s1.rel, h1, fun y G2 N2 v2 H2 h2 s2 r2 => ?_, qx.le s1⟩
  exact ⟨x, y, G2, N2, R, r1.le s2.kp, r2, s2.rel, h2, q.le (s1.trans s2)⟩
theorem tx_cmp {op : CmpOp} {r : DR2} (ho : OpD X (compareOp op) r) (ha : QEX X W a ta) (hb : QEX X W b tb) (hm : behindInMarks op b = false) : QTX X W (.Compare a [op] [b] pos) (fun RX => dB (dOp r (ta RX) (tb RX))) :=
  pt_mono (pt_cmpR ho ha hb hm) fun τ H Q z => by
    obtain ⟨σ, G, N, R, RX, hs, hg, ht, q, qx⟩ := z
    refine up_opX ⟨σ, G, N, _, RX, hs, hg, ht, fun x G1 N1 v1 H1 h1 s1 r1 => ?_, qx⟩
    dsimp only at h1
    split at h1
    · exact ⟨_, r1.of_bl, q _ _ _ _ h1 s1⟩
    · exact h1.elim
theorem ex_ifExp (hc : QTX X W c u) (ha : QEX X W a ta) (hb : QEX X W b tb) : QEX X W (.IfExp c a b pos) (fun RX => dIf (u RX) (ta RX) (tb RX)) :=
  pe_mono (pe_ifExp hc ha hb) fun τ H Q h => by
    obtain ⟨σ, G, N, R, RX, hs, hg, ht, q, qx⟩ := h
    refine ⟨σ, G, N, _, RX, hs, hg, ht, fun c G1 N1 H1 h1 s1 => ?_, qx⟩
    cases c with
    | true => rw [if_pos rfl]; exact ⟨σ, G1, N1, R, RX, hs.le s1.kp, s1.rel, h1, q.le s1, qx.le s1⟩
    | false => rw [if_neg Bool.false_ne_true]; exact ⟨σ, G1, N1, R, RX, hs.le s1.kp, s1.rel, h1, q.le s1, qx.le s1⟩
variable {es : List Expr} {tr : DXW → DA}
theorem ax_nil : QAX X W [] (fun _ => dNil) := ax_of qa_nil
theorem ax_cons (ha : QEX X W e t) (hr : QAX X W es tr) (hs : starEach (e :: es) X.env = (false, eval e X.env) :: starEach es X.env := by rfl) : QAX X W (e :: es) (fun RX => dCons (t RX) (tr RX)) :=
  pa_mono (pa_cons ha hr hs) fun τ H Q h => by
    obtain ⟨σ, G, N, R, RX, hs, hg, ht, q, qx⟩ := h
    refine ⟨σ, G, N, _, RX, hs, hg, ht, fun x G1 N1 v1 H1 h1 s1 r1 => ?_, qx⟩
    refine ⟨σ, G1, N1, _, RX, hs.le s1.kp, s1.rel, h1, fun ds G2 N2 vs H2 h2 s2 r2 => ?_, qx.le s1⟩
    exact q _ G2 N2 _ H2 h2 (s1.trans s2) (RDs.cons (r1.le s2.kp) r2)
end
/-! ### blocks -/
section
variable {X : Cx} {W : WX} {st : Stmt} {rest : List Stmt} {t u : DXW → DS} {e : Expr} {te : DXW → DE} {pos : Pos}
theorem ssx_nil : QSsX X W [] (fun _ => dNext) := ssx_of qss_nil
theorem ssx_cons (h1 : QSX X W st t) (h2 : QSsX X W rest u) : QSsX X W (st :: rest) (fun RX => dSeq (t RX) (u RX)) := pss_mono (pss_cons h1 h2) fun D τ H h => by
  obtain ⟨σ, G, N, E, RX, hs, hg, ht, q, qx⟩ := h
  refine ⟨σ, G, N, _, RX, hs, hg, ht, ⟨fun σ' G' N' τ' H' h s' r => ?_, q.rt, q.bk, q.ct⟩, qx⟩
  exact ⟨σ', G', N', E, RX, r, s'.rel, h, q.le s', qx.le s'⟩
theorem ssx_one (h1 : QSX X W st t) : QSsX X W [st] t := pss_mono (pss_one h1) fun D τ H h => h
theorem sx_expr (he : QEX X W e te) (hs : swapsWith e none pos.line X.env = pure false := by rfl) : QSX X W (.Expr e pos) (fun RX => dDrop (te RX)) := ps_mono (ps_expr he hs) fun D τ H h => by
  obtain ⟨σ, G, N, E, RX, hs, hg, ht, q, qx⟩ := h
  exact ⟨σ, G, N, _, RX, hs, hg, ht, fun d G' N' v H' h s' r => q.nx _ _ _ _ _ h s' (hs.le s'.kp), qx⟩
theorem sx_ret (he : QEX X W e te) : QSX X W (.Return (some e) pos) (fun RX => dRet (te RX)) := ps_mono (ps_ret he) fun D τ H h => by
  obtain ⟨σ, G, N, E, RX, hs, hg, ht, q, qx⟩ := h
  refine ⟨σ, G, N, _, RX, hs, hg, ht, fun d G' N' v H' h s' r => ?_, qx⟩
  obtain ⟨d', G2, w, h⟩ := h
  exact q.rt.wk s' r w h s'.old
theorem sx_if {c : Expr} {a b : List Stmt} {tc : DXW → DT} (hc : QTX X W c tc) (ha : QSsX X W a t) (hb : QSsX X W b u) : QSX X W (.If c a b pos) (fun RX => dIfS (tc RX) (t RX) (u RX)) := ps_mono (ps_if hc ha hb) fun D τ H h => by
  obtain ⟨σ, G, N, E, RX, hs, hg, ht, q, qx⟩ := h
  refine ⟨σ, G, N, _, RX, hs, hg, ht, fun b G1 N1 H1 h1 s1 => ?_, qx⟩
  cases b with
  | true => rw [if_pos rfl]; exact ⟨σ, G1, N1, E, RX, hs.le s1.kp, s1.rel, h1, q.le s1, qx.le s1⟩
  | false => rw [if_neg Bool.false_ne_true]; exact ⟨σ, G1, N1, E, RX, hs.le s1.kp, s1.rel, h1, q.le s1, qx.le s1⟩
theorem sx_set {i : Nat} {x : Str} {pos' : Pos} (hN : X.N.Nodup) (hi : X.N[i]? = some x) (hx : Loc X.env.scope x) (he : QEX X W e te) (hs : swapsWith e (some (.Name x pos')) pos.line X.env = pure false := by rfl) (hf : X.fn x = true ∨ X.env.scope.names.lookup x = some .local := by first | exact .inl rfl | exact .inr rfl | assumption) :
    QSX X W (.Assign [.Name x pos'] e pos) (fun RX => dAsg (te RX) (dName i)) := ps_mono (ps_set hN hi hx he hs hf) fun D τ H h => by
  obtain ⟨σ, G, N, E, RX, hs, hg, ht, q, qx⟩ := h
  refine ⟨σ, G, N, _, RX, hs, hg, ht, fun d G' N' v H' h s' r => ?_, qx⟩
  exact q.nx _ _ _ _ _ h s' ((hs.le s'.kp).set r i)
theorem upSX_asg {K : PySem.W.Frag} {g : DG} {D : Ends} {τ : L2.St} {H : Hp} (h : upSX K W (fun RX => dAsg (te RX) g) D τ H) : tAsg (upX K W te) (upG K g) D τ H := by
  obtain ⟨σ, G, N, E, RX, hs, hg, ht, q, qx⟩ := h
  refine ⟨σ, G, N, _, RX, hs, hg, ht, fun d G' N' v H' h s' r => ?_, qx⟩
  exact ⟨d, σ, G', N', _, r, hs.le s'.kp, s'.rel, h, fun σ2 G2 N2 τ2 H2 h2 s2 r2 => q.nx _ _ _ _ _ h2 (s'.trans s2) r2⟩
theorem sx_asg {tg : Expr} {g : DG} (he : QEX X W e te) (hg : QG X tg g) (hs : swapsWithSole [tg] e pos.line X.env = pure false := by rfl) (hw : swappedStores [tg] e X.env = pure none := by rfl)
    (h1 : (assignEach [tg] X.env).map (·.2) = [assign tg X.env] := by rfl) : QSX X W (.Assign [tg] e pos) (fun RX => dAsg (te RX) g) := ps_mono (ps_asg he hg hs hw h1) fun D τ H h => upSX_asg h
theorem sx_for {iter tg : Expr} {body : List Stmt} {ti : DI} {g : DG} {tb : DXW → DS} (hp : PassesOwn (model X.prog X.w) X.A X.env X.xe) (hc : X.calm = true) (hi : QI X tg iter ti) (hg : QG X tg g) (hb : QSsX X W body tb)
    (hs : ∀ x, foldedSetIterable iter X.env x = pure x := by intro _; rfl) : QSX X W (.For tg iter body [] pos) (fun RX => dFor ti g (tb RX)) := ps_mono (ps_for hp hc hi hg hb hs) fun D τ H h => by
  obtain ⟨σ, G, N, E, RX, hs, hg, ht, q, qx⟩ := h
  refine ⟨σ, G, N, _, hs, hg, ht, fun xs gd G1 N1 J H1 h1 s1 y => ?_⟩
  refine ⟨fun i m τ' H' => m = xs.length - i ∧ i ≤ xs.length ∧ ∃ σ' G' N', RSt X.K H' N' σ' τ' ∧ Stp X.K H1 N1 G1 H' N' G' ∧ dForGo g (tb RX) gd E (xs.drop i) σ' G', ⟨xs.length, rfl, Nat.zero_le _, σ, G1, N1, hs.le s1.kp, Stp.refl s1.rel, h1⟩, ?_⟩
  rintro i m τ2 H2 ⟨rfl, hi, σ2, G2, N2, r2, s2, h2⟩
  by_cases hlt : i < xs.length
  · rw [List.drop_eq_getElem_cons hlt] at h2
    obtain ⟨hgd, h2⟩ := h2
    obtain ⟨go, yld⟩ := y.go i H2 N2 G2 xs[i] s2 hgd (List.getElem?_eq_getElem hlt)
    refine .inr ⟨go, fun τ' H' => ∃ σ' G' N', RSt X.K H' N' σ' τ' ∧ Stp X.K H1 N1 G1 H' N' G' ∧ dForGo g (tb RX) gd E (xs.drop (i + 1)) σ' G', fun τ' H' z => ⟨xs.length - (i + 1), by omega, rfl, hlt, z⟩, fun x H3 hy => ?_⟩
    obtain ⟨s3, r3⟩ := yld x H3 hy
    refine ⟨xs[i], σ2, G2, N2, _, r3, r2.le s3.kp, s3.rel, h2, fun σ4 G4 N4 τ4 H4 h4 s4 r4 => ?_⟩
    have s14 := (s2.trans s3).trans s4
    refine ⟨σ4, G4, N4, _, RX, r4, s4.rel, h4, ⟨fun σ' G' N' τ' H' h s' r => ⟨σ', G', N', r, s14.trans s', h⟩, (q.le (s1.trans s14)).rt, fun σ' G' N' τ' H' h s' r => q.nx _ _ _ _ _ h ((s1.trans s14).trans s') r, fun σ' G' N' τ' H' h s' r => ⟨σ', G', N', r, s14.trans s', h⟩⟩, qx.le (s1.trans s14)⟩
  · have e : i = xs.length := by omega
    subst e
    rw [List.drop_length] at h2
    exact .inl ⟨y.stop _ H2 N2 G2 s2 h2.1 rfl, q.nx _ _ _ _ _ h2.2 (s1.trans s2) r2⟩
end
/-! ### defs that may raise -/
abbrev DSpX := List D → Gp → DK → DXC → Prop
def upSpX (K : PySem.W.Frag) (sp : DSpX) : Sp := fun vs H Q E => ∃ ds G N R RX, RDs K H N ds vs ∧ RelG K H N G ∧ sp ds G R RX ∧ UpQ K H N G R Q ∧ UpXC K H N G RX E
def FnX (P : Program) (w : World) (K : PySem.W.Frag) (mg : Str → Option Value) (base : Heap) (k : Nat) (f : Addr) (fd : FuncData) (ps : List Str) (sp : DSpX) : Prop := FnOk P w K mg base (L2N.CX P w) k f fd ps (upSpX K sp)
theorem FnX.mono {P : Program} {w : World} {K : PySem.W.Frag} {mg : Str → Option Value} {base : Heap} {j k : Nat} {f : Addr} {fd : FuncData} {ps : List Str} {sp : DSpX} (F : FnX P w K mg base j f fd ps sp) (h : j ≤ k) : FnX P w K mg base k f fd ps sp := FnOk.mono F h
theorem FnX.imp {P : Program} {w : World} {K : PySem.W.Frag} {mg : Str → Option Value} {base : Heap} {k : Nat} {f : Addr} {fd : FuncData} {ps : List Str} {sp sp' : DSpX} (F : FnX P w K mg base k f fd ps sp) (h : ∀ ds G R RX, sp' ds G R RX → sp ds G R RX) : FnX P w K mg base k f fd ps sp' :=
  FnOk.imp F fun vs H Q E ⟨ds, G, N, R, RX, r1, r2, h1, q⟩ => ⟨ds, G, N, R, RX, r1, r2, h ds G R RX h1, q⟩
section
variable {P : Program} {w : World} {K : PySem.W.Frag} {mg : Str → Option Value} {base : Heap}
theorem fun_okX {x qual : Str} {st : Stmt} {f : Addr} {fd : FuncData} {M ps : List Str} {k : Nat} {sp : DSpX} (F : Fun K x qual st f fd) (S : FnScope M ps (defScope st)) (len : ∀ ds G R RX, sp ds G R RX → ds.length = ps.length)
    (hbody : ∀ (cdv : Value) (A : Around) (outer : List Env) (s : Shared) (H : Hp) (E : XK), Room k (A.deeper (envOfC qual (defScope st) s.heap.objs.size f cdv)) →
      L2N.Takes (cxOf (L2N.CX P w) P w K mg base M qual (defScope st) f cdv A outer s H E) (fun cls d _ H => E cls d H) →
      ∃ t, QSsX (cxOf (L2N.CX P w) P w K mg base M qual (defScope st) f cdv A outer s H E) (fun cls d _ H => E cls d H) (defBody st) t ∧ ∀ (ds : List D) (G : Gp) (R : DK) (RX : DXC), sp ds G R RX → t (fun cls fs _ G => RX cls fs G) { nx := fun _ G1 => ∃ G', Sub G' G1 ∧ R .non G', rt := R } (startD M.length ds) G) : FnX P w K mg base (k + 1) f fd ps sp := by
  obtain ⟨oc, od, kV, doc, pm, an, cdv, ct, osl, rfl, lk, hcd⟩ := F.ex
  refine fn_of lk hcd S (fun vs H Q E h => ?_) (fun A outer s H vs Q E hr h => ?_)
  · obtain ⟨ds, G, N, R, RX, r1, _, h1, _⟩ := h
    rw [← r1.length]; exact len ds G R RX h1
  · obtain ⟨ds, G, N, R, RX, r1, r2, h1, q, qx⟩ := h
    obtain ⟨t, ht, hq⟩ := hbody cdv A outer s H E hr (L2N.takes_of rfl rfl rfl rfl)
    refine ⟨upSX K _ t, ht, startD M.length ds, G, N, _, _, RSt.begin r1, r2, hq ds G R RX h1, ⟨fun σ' G' N' τ' H' h s' r => ?_, q, fun _ _ _ _ _ h => h.elim, fun _ _ _ _ _ h => h.elim⟩, fun cls fs σ' G' N' τ' H' d h s' _ xd => qx cls fs G' N' H' d h s' xd⟩
    obtain ⟨G2, sb, h⟩ := h
    exact q _ _ _ _ _ h (s'.trans (s'.rel.sub sb)) RD.non
end
section
variable {X : Cx} {W : WX} {k : Nat} {f : Addr} {fd : FuncData} {ps : List Str} {sp : DSpX} {x : Str} {p pos : Pos} {e : Expr} {es : List Expr} {t : DXW → DA}
/-- a wish, with what may be forgotten; a call that may raise -/
def subX (RX : DXW) (σ : Sd) : DXC := fun cls fs G => ∃ G', Sub G' G ∧ RX cls fs σ G'
def dCallX (sp : DSpX) (RX : DXW) (t : DA) : DE := fun σ G R => t σ G fun ds G1 => sp ds G1 R (subX RX σ)
theorem ex_callA (hx : ∀ σ, PassesAt (L2N.CX X.prog X.w) X σ (WE W σ)) (F : FnX X.prog X.w X.K X.mg X.base k f fd ps sp) (hr : Room k X.A) (hg : Gl X x) (hm : X.mg x = some (.ref f)) (hk : PySem.W.keepIn X.K (.ref f) = true) (hb : Binds X.K fd ps []) (ha : QAX X W (e :: es) t)
    (hdb : (x == ("__debug__" : Str)) = false := by decide) (he : starEach (e :: es) X.env = (false, eval e X.env) :: starEach es X.env := by rfl) (hpl : (backTo pos (starEach es X.env)).any (·.1) = false := by rfl) :
    QEX X W (.Call (.Name x p) (e :: es) [] pos) (fun RX => dCallX sp RX (t RX)) := pe_mono (pe_callS F hr hg hm hk hb hx ha hdb he hpl) fun τ H Q h => by
  obtain ⟨σ, G, N, R, RX, hs, hg, ht, q, qx⟩ := h
  refine ⟨σ, G, N, _, RX, hs, hg, ht, fun ds G1 N1 vs H1 h1 s1 r1 => ?_, qx⟩
  refine ⟨ds, G1, N1, R, _, r1, s1.rel, h1, q.le s1, fun cls fs G' N' H' d h s' xd => ?_⟩
  obtain ⟨G3, sb, h⟩ := h
  refine qx cls fs σ G3 N' τ H' d h ((s1.trans s').trans (s'.rel.sub sb)) ((hs.le s1.kp).le s'.kp) ?_
  cases d with
  | none => exact xd
  | some a => exact ⟨xd.1, sb.nn xd.2.1, xd.2.2⟩
end
end DL

set_option Elab.async false
set_option linter.all false
set_option maxRecDepth 100000
set_option maxHeartbeats 4000000
set_option autoImplicit false
namespace DL
open PySem PySem.Spec PyProof.Rows L2
/-! ### comprehensions whose turns may raise -/
/-- what is wanted behind a comprehension's block ce, raised or not -/
def CPst (M : Model) (A : Around) (E : Value → Shared → Prop) (use : Option (Value → Sem Unit)) (Q : Value → Shared → Prop) (acc : Value) (ce : Env) (r : Result) (z : Shared) : Prop :=
  match r, use with
  | .ok _, none => ∃ m, z.heap.Ns ce.locals m ∧ ∀ g, Heap.SameBut ce.locals z.heap g → Q acc { z with heap := g }
  | .ok _, some u => wpAny M A (u acc) (fun _ y => ∃ m, y.heap.Ns ce.locals m ∧ ∀ g, Heap.SameBut ce.locals y.heap g → Q .none { y with heap := g }) E z
  | .error x, _ => ∃ m, z.heap.Ns ce.locals m ∧ ∀ g n, g.Ns ce.locals n → Heap.SameBut ce.locals z.heap g → wpAny M A (passOn "comprehension.variables-let-go" x ce : Sem Value) (fun _ _ => False) E { z with heap := g }
section
variable {M : Model} {A : Around} {E : Value → Shared → Prop} {s : Shared} {env : Env}
theorem own_names {scope : Scope} (hn : ∀ x ∈ scope.names, x.2 = .local → scope.names.lookup x.1 = some .local) {cenv : Env} {l : List (Str × NameKind)} (hl : ∀ x ∈ l, x ∈ scope.names) : ∀ x ∈ l, x.2 = .local → Env.kindOf { cenv with scope := relabel scope env } x.1 = some .local :=
  fun x hx h => lookup_relabel_local (hn x (hl x hx) h)
theorem comp_x {e : Expr} {scope : Scope} {pos : Pos} {mk one : Sem Value} {c : Comprehension} {cs : List Comprehension} {cl : List (Str × Addr)} {use : Option (Value → Sem Unit)} {Q : Value → Shared → Prop}
    (h1 : clausesOf e = c :: cs) (h2 : ∀ x, foldedSetIterable c.iter env x = pure x) (h3 : closureFor scope env = pure cl) (h4 : scope.kind = .function) (h5 : ∀ x ∈ scope.names, x.2 = .local → scope.names.lookup x.1 = some .local)
    (h : wpAny M A one (fun x z => wpAny M A (pyIter x) (fun it z => wpAny M A mk (fun acc z => wpAny M A (newFunctionEnv scope env.globals cl [] env.qual none .none (some env)) (fun ce z =>
      codeAny M A (.compStart e 0 it acc { ce with scope := relabel scope env }) (CPst M A E use Q acc { ce with scope := relabel scope env }) z) E z) E z) E z) E s) : wpAny M A (comprehension e scope env pos mk false one use) Q E s := by
  unfold comprehension
  rw [h3, h1]
  refine wpAny_bind (wpAny_mono h (fun x z k => ?_) fun _ _ y => y)
  refine wpAny_bind (wpAny_standAt (wpAny_bind (wpAny_of_eq (h2 x) (wpAny_bind (wpAny_holding (wpAny_mono k (fun it z k => ?_) fun _ _ y => y))))))
  refine wpAny_standIf (wpAny_bind (wpAny_mono k (fun acc z k => ?_) fun _ _ y => y))
  refine wpAny_bind (wpAny_pure (wpAny_bind (wpAny_mono k (fun ce z k => ?_) fun _ _ y => y)))
  dsimp only
  have fil : ∀ x ∈ (scope.names.filter fun x => (x.2 == .local || x.2 == .cell) && x.1 != (".0" : Str)).reverse, x ∈ scope.names := fun x hx => (List.mem_filter.mp (List.mem_reverse.mp hx)).1
  refine wpAny_holding (wpAny_bind (wpAny_attempt (wpAny_holding (wpAny_run (codeAny_mono k fun r z hr => ?_)))))
  cases r with
  | ok f =>
    cases use with
    | none =>
      obtain ⟨m, hn, hr⟩ := hr
      refine wpAny_bind (wpAny_holding (wpAny_comp_letGo (cenv := { ce with scope := relabel scope env }) h4 _ z m (own_names h5 fil) hn fun g _ _ hg => ?_))
      exact wpAny_pure (hr g hg)
    | some u =>
      refine wpAny_bind (wpAny_rule (wpAny_bind (wpAny_holding (wpAny_mono hr (fun _ z2 hr2 => ?_) fun _ _ y => y))))
      obtain ⟨m, hn, hr2⟩ := hr2
      refine wpAny_bind (wpAny_comp_letGo (cenv := { ce with scope := relabel scope env }) h4 _ z2 m (own_names h5 fun x hx => ?_) hn fun g _ _ hg => wpAny_pure (hr2 g hg))
      rcases List.mem_append.mp hx with k1 | k1
      · exact fil x (List.mem_of_mem_drop k1)
      · exact fil x (List.mem_of_mem_take k1)
  | error x =>
    have hr2 : ∃ m, z.heap.Ns ce.locals m ∧ ∀ g n, g.Ns ce.locals n → Heap.SameBut ce.locals z.heap g → wpAny M A (passOn "comprehension.variables-let-go" x { ce with scope := relabel scope env } : Sem Value) (fun _ _ => False) E { z with heap := g } := by
      cases use <;> exact hr
    obtain ⟨m, hn, hr2⟩ := hr2
    refine wpAny_bind (wpAny_holding (wpAny_comp_letGo (cenv := { ce with scope := relabel scope env }) h4 _ z m (own_names h5 fil) hn fun g n ng hg => ?_))
    exact wpAny_mono (hr2 g n ng hg) (fun _ _ f => f.elim) fun _ _ y => y
end
/-! ### an exception leaves the block -/
theorem hide_none {B : Heap} {l : List Addr} {L : Addr} (hb : B.get? L = none) : (PySem.W.hideAll B l).get? L = none := by
  cases q : (PySem.W.hideAll B l).get? L with
  | none => rfl
  | some u =>
    rw [PySem.W.of_hideAll _ q] at hb
    cases hb
theorem frames_hide {h B : Heap} {C : Addr} : ∀ {l : List Env}, h.FunFrames B l → h.FunFrames (PySem.W.hideAll B [C]) l
  | [], _ => trivial
  | _ :: _, ⟨hk, ⟨L, o, hf, hb, ho, hd⟩, hr⟩ => ⟨hk, ⟨L, o, hf, hide_none hb, ho, hd⟩, frames_hide hr⟩
theorem held_hide {B h g : Heap} {l : List Env} {a C L : Addr} {Z : Obj → Prop} {n : Str → Option Value} (hh : HandSPX.HeldZ B l a Z L h) (hC : ∃ o, B.get? C = some o) (sb : Heap.SameBut C h g) (ns : g.Ns C n) : HandSPX.HeldZ (PySem.W.hideAll B [C]) l a Z L g := by
  obtain ⟨k1, k2, k3, oe, vs, T, oT, ts, e1, e2, e3, e4, e5, e6, e7, e8, e9⟩ := hh
  obtain ⟨oc, hC⟩ := hC
  have na : a ≠ C := fun z => by rw [z, hC] at k2; cases k2
  have nT : T ≠ C := fun z => by rw [z, hC] at e5; cases e5
  refine ⟨fun b o hb => ?_, hide_none k2, Heap.FunFrames.sameBut sb ns (frames_hide k3), oe, vs, T, oT, ts, (sb.2 a na).trans e1, e2, e3, e4, hide_none e5, e6, (sb.2 T nT).trans e7, e8, e9⟩
  have nb : b ≠ C := fun z => by
    rw [z, PySem.W.hideAll_none [C] (List.mem_cons_self)] at hb
    cases hb
  exact (sb.2 b nb).trans (k1 b o (PySem.W.of_hideAll _ hb))
section
variable {X : Cx} {pins : List (Addr × Obj)} {σ : L2.St} {H : Hp} {s s' : Shared} {B : Heap} {W : WX} {E : XK}
/-- a call's exception that this frame holds already is in our air -/
theorem xe_held {a : Addr} {H' : Hp} {cls : Value} {d : Option Addr} (I : Inv X pins σ H s) (fl : HandSPX.HeldZ B X.stack a (L2N.Zn cls d) X.env.locals s'.heap) (hok : HOk X.prog X.w H' B) (ub : UB (frs X.stack) H H' s.heap B s'.heap) (na : H' a = none) (os : s'.os = s.os) (ag : AllBare s'.gens) (w : W cls d σ H') : L2N.XE X W (.ref a) s' := by
  obtain ⟨G, g1, g2⟩ := restrict s'.heap fun b => (B.get? b).isSome || decide (b ∈ frs X.stack)
  have gB : ∀ b o, B.get? b = some o → G.get? b = some o := fun b o e => (g1 b (by simp [e])).trans (fl.1 b o e)
  have og : ∀ b o, G.get? b = some o → s'.heap.get? b = some o ∧ ((B.get? b).isSome = true ∨ b ∈ frs X.stack) := fun b o e => by
    cases q : ((B.get? b).isSome || decide (b ∈ frs X.stack)) with
    | false => rw [g2 b q] at e; cases e
    | true => exact ⟨by rw [← g1 b q]; exact e, by simpa [Bool.or_eq_true] using q⟩
  have slot : ∀ b o, s.heap.get? b = some o → b ∈ frs X.stack → ∃ sl, G.get? b = some { o with slots := sl } := fun b o e hb => by
    obtain ⟨sl, q⟩ := ub.slot b o e hb
    exact ⟨sl, by rw [g1 b (by simp [hb])]; exact q⟩
  refine ⟨a, B, { s with heap := G, gens := s'.gens, drawn := s'.drawn, toks := s'.toks }, pins, σ, H', cls, d, rfl, ?_, fun b o e hb => ?_, Heap.UpToSlots.of_keeps fun b o e => (og b o e).1, .inr (.inr fl), na, os, ag, w⟩
  · refine I.call (ch := []) ⟨fun b o e n hb _ => gB b o (ub.keep b o e n hb), fun b o e _ hb _ => slot b o e hb, fun b o e n _ => ub.free b o e n, fun b o e _ => ?_, ub.tups, ub.frzs, ub.tbls⟩ (hok.kept gB) ag (fun _ z => nomatch z)
    by_cases hb : b ∈ frs X.stack
    · obtain ⟨sl, q⟩ := slot b o e hb
      exact ⟨_, q⟩
    · obtain ⟨o', q⟩ := ub.there b o e hb
      exact ⟨o', gB b o' q⟩
  · obtain ⟨e', h⟩ := og b o e
    rcases h with h | h
    · obtain ⟨o', q⟩ := Option.isSome_iff_exists.mp h
      have z := fl.1 b o' q
      rw [e'] at z; cases z
      exact q
    · exact absurd h hb
/-- a call in a block lets an exception out: noted, the block's names let go, flying on -/
theorem block_out {e : Value} {ce : Env} {use : Option (Value → Sem Unit)} {Qf : Value → Shared → Prop} {acc : Value} {mC : Str → Option Value} (hs : X.stack = X.env :: X.outer) (hf : X.env.frame = some X.env.locals) (tk : L2N.Takes X W)
    (I : Inv X pins σ H s) (hce : ce.frame = X.env.frame) (hC : s.heap.Ns ce.locals mC) (fC : FpOk X pins H ce.locals) (c : L2N.CX X.prog X.w X.stack H s (WE W σ) e s') :
    wpAny (model X.prog X.w) X.A (noteFrame e ce) (fun _ z => CPst (model X.prog X.w) X.A X.xe use Qf acc ce (.error e) z) (fun x z => CPst (model X.prog X.w) X.A X.xe use Qf acc ce (.error x) z) s' := by
  obtain ⟨a, B, H', cls, d, rfl, fl, hok, ub, na, os, ag, hE⟩ := c
  have hfr : X.A.frames = some (X.env :: X.outer) := by rw [I.ok.frames, hs]
  have nfr : ce.locals ∉ frs X.stack := fun hm => (List.mem_cons.mp (I.stkSub _ hm)).elim fC.2.1 fC.2.2.1
  obtain ⟨oC, es, ep, hC1, hC2⟩ := id hC
  have hBC := ub.keep _ _ hC1 fC.1 nfr
  have hsC := fl.1 _ _ hBC
  rw [show noteFrame (.ref a) ce = noteFrame (.ref a) X.env from by unfold noteFrame PySem.frameOf; rw [hce]]
  rw [hs] at fl
  refine PXN.looks_onZ L2N.Zn.steady hfr hf fl fun h1 hh up1 => ?_
  have h1C : h1.get? ce.locals = some oC := hh.1 _ _ hBC
  have fin : ∃ m, h1.Ns ce.locals m ∧ ∀ g n, g.Ns ce.locals n → Heap.SameBut ce.locals h1 g → wpAny (model X.prog X.w) X.A (passOn "comprehension.variables-let-go" (.ref a) ce : Sem Value) (fun _ _ => False) X.xe { s' with heap := g } := by
    refine ⟨mC, ⟨oC, es, ep, h1C, hC2⟩, fun g n ng sb => ?_⟩
    have hg := held_hide hh ⟨_, hBC⟩ sb ng
    obtain ⟨k1, k2, k3, oe, vs, T, oT, ts, e1, e2, e3, e4, _⟩ := id hg
    unfold PySem.passOn
    refine wpAny_bind (wpAny_field e1 e3 e4 ?_)
    rw [if_neg (show ¬ ((Value.ref T == Value.none) = true) from by simp)]
    have last : wpAny (model X.prog X.w) X.A (setFlight (.ref a) ce.frame) (fun _ z => wpAny (model X.prog X.w) X.A (throw (.ref a) : Sem Value) (fun _ _ => False) X.xe z) X.xe { s' with heap := g } := by
      rw [hce, hf]
      refine HandSPX.setFlight_onZ hg fun g2 hh2 up2 => wpAny_throw (tk _ _ ?_)
      have I2 : Inv X pins σ H { s with heap := PySem.W.hideAll s.heap [ce.locals] } := I.turned (t' := s.toks) (it := ce.locals) (fun b o hb q => PySem.W.hideAll_get _ q (by simpa using hb)) fC.1 fC.2.1 fC.2.2.2.1 fC.2.2.2.2.1 fC.2.2.2.2.2
      have ne : ∀ {b : Addr} {o : Obj}, (PySem.W.hideAll s.heap [ce.locals]).get? b = some o → b ≠ ce.locals := fun {b o} q z => by
        rw [z, PySem.W.hideAll_none [ce.locals] (List.mem_cons_self)] at q
        cases q
      have hid : ∀ {b : Addr} {o : Obj}, b ≠ ce.locals → B.get? b = some o → (PySem.W.hideAll B [ce.locals]).get? b = some o := fun {b o} hb q => PySem.W.hideAll_get _ q (by simpa using hb)
      have hokH : HOk X.prog X.w H' (PySem.W.hideAll B [ce.locals]) := fun b o z => by
        have nC : H' ce.locals = none := ub.free _ _ hC1 fC.1
        have at1 : ∀ {c : Addr} {u : HO}, H' c = some u → c ≠ ce.locals := fun {c u} q z => by rw [z, nC] at q; cases q
        exact (hok b o z).stay (fun c v hc y => hid (by
          rcases hc with hc | hc
          · rw [hc]; exact at1 z
          · exact at1 hc) y) (fun _ q => q) (fun _ _ q => q)
      refine xe_held (B := PySem.W.hideAll B [ce.locals]) (H' := H') (cls := cls) (d := d) I2 (by rw [hs]; exact hh2) hokH ⟨fun b o q n hb => ?_, fun b o q hb => ?_, fun b o q n => ?_, fun b o q hb => ?_, ub.tups, ub.frzs, ub.tbls⟩ na os ag hE
      · exact hid (ne q) (ub.keep b o (PySem.W.of_hideAll _ q) n hb)
      · obtain ⟨sl, e1⟩ := ub.slot b o (PySem.W.of_hideAll _ q) hb
        obtain ⟨_, o0, ho0, nf⟩ := I.stack.mem hb
        rw [PySem.W.of_hideAll _ q] at ho0
        cases ho0
        obtain ⟨sl1, e2⟩ := up1 b _ e1 nf
        have e3 := (sb.2 b (ne q)).trans e2
        obtain ⟨sl2, e4⟩ := up2 b _ e3 nf
        exact ⟨sl2, e4⟩
      · exact ub.free b o (PySem.W.of_hideAll _ q) n
      · obtain ⟨o', e1⟩ := ub.there b o (PySem.W.of_hideAll _ q) hb
        exact ⟨o', hid (ne q) e1⟩
    first
      | exact wpAny_bind (wpAny_pure (wpAny_bind last))
      | exact wpAny_bind last
  cases use <;> exact fin
end
end DL

set_option Elab.async false
set_option linter.all false
set_option maxRecDepth 100000
set_option maxHeartbeats 4000000
set_option autoImplicit false
namespace DL
open PySem PySem.Spec PyProof.Rows L2
/-! ### list and dict comprehensions whose element may raise -/
/-- the context of a block of which an exception is wanted -/
abbrev bxc (X : Cx) (z : Shared) (H : Hp) (sc : Scope) (ce : Env) (fp : List Addr) (xe : Value → Shared → Prop) : Cx := (X.blk z H sc ce fp).wish xe
/-- an element's rule in such a block: W at the def's slots σ -/
def BlkE (X : Cx) (W : WX) (σ : L2.St) (sc : Scope) (e : Expr) (t : TE) : Prop := ∀ (z : Shared) (H : Hp) (C : Addr) (cl : List (Str × Addr)) (fp : List Addr) (xe : Value → Shared → Prop),
  (∀ τ, PassesAt (L2N.CX X.prog X.w) (bxc X z H sc (compEnvC sc cl C X.env) fp xe) τ (fun cls d H' => W cls d σ H')) → PE (bxc X z H sc (compEnvC sc cl C X.env) fp xe) e t
/-- the block's own env, its names laid behind h -/
abbrev ceAt (X : Cx) (sc : Scope) (h : Heap) : Env := compEnvC sc (cellsFrom (h.objs.size + 1) sc.names (cloFrom X.env.cells sc.names [])) h.objs.size X.env
/-- one step of an element: what it does, by its wish -/
abbrev Elm := (Shared → Prop) → (Value → Shared → Prop) → Shared → Prop
abbrev tstOf (ifs : List Expr) (ce : Env) : Sem Bool := forIn ifs true fun c r => if r = true then do let ok ← isTrue c ce (eval c ce); pure (ForInStep.yield ok) else pure (ForInStep.yield r)
def TurnAt (M : Model) (A : Around) (tg : Expr) (ifs : List Expr) (it : Addr) (ce : Env) (el : Elm) (R : Result → Shared → Prop) (P : Shared → Prop) (z : Shared) : Prop :=
  wpAny M A (pyNext (.ref it)) (fun r z => match r with
    | none => R (.ok .next) z
    | some v => wpAny M A (letOwnedTupleGo tg (.ref it) v) (fun _ z => wpAny M A (assign tg ce v) (fun _ z => wpAny M A (tstOf ifs ce) (fun ok z => if ok = true then el P (notedBy M A ce fun x y => R (.error x) y) z else P z)
        (notedBy M A ce fun x y => R (.error x) y) z) (notedBy M A ce fun x y => R (.error x) y) z) (notedBy M A ce fun x y => R (.error x) y) z) (notedBy M A ce fun x y => R (.error x) y) z
section
variable {X : Cx} {pins : List (Addr × Obj)} {s : Shared} {σ : L2.St} {H : Hp} {Q : VK} {W : WX} {tg iter : Expr} {ifs : List Expr} {sc : Scope} {own : List (Str × Nat)} {g : TG} {tt : TT} {use : Option (Value → Sem Unit)} {Qf : Value → Shared → Prop}
/-- the loop of a block, whatever is made -/
theorem blk_loop {it D : Addr} {fp : List Addr} {tn : Nat → Heap → Prop} {J : It} {el : Elm} {step : L2.St → Hp → (Hp → Prop) → Prop} {V : Nat → Nat → Hp → Prop} {m0 : Nat} {cd : Code} (hs1 : X.stack = X.env :: X.outer) (hf1 : X.env.frame = some X.env.locals) (tkW : L2N.Takes X W)
    (hc : X.calm = true) (hN : X.N.Nodup) (I : Inv X pins σ H s) (ok : BlkOk X.N X.env.scope sc own)
    (hg : ∀ (z : Shared) (H : Hp) (C : Addr) (cl : List (Str × Addr)) (fp : List Addr), PG (X.blk z H sc (compEnvC sc cl C X.env) fp) tg g)
    (ht : ∀ (z : Shared) (H : Hp) (C : Addr) (cl : List (Str × Addr)) (fp : List Addr), PTs (X.blk z H sc (compEnvC sc cl C X.env) fp) ifs tt)
    (T : Turn X.prog X.w X.K tg J fp it tn) (st : tn 0 s.heap) (hfp : ∀ b ∈ fp, FpOk X pins H b ∧ b < s.heap.objs.size)
    (hl : ∀ (R : Result → Shared → Prop) (Iv : Nat → Shared → Prop), (∀ n z, Iv n z → TurnAt (model X.prog X.w) X.A tg ifs it (ceAt X sc s.heap) el R (fun y => ∃ m, m < n ∧ Iv m y) z) → ∀ n z, Iv n z → codeAny (model X.prog X.w) X.A cd R z)
    (hel : ∀ (σ8 : L2.St) (H8 : Hp) (z8 : Shared) (pb : List (Addr × Obj)) (Nx : Hp → Prop) (P : Shared → Prop) (Eb : Value → Shared → Prop), (∀ τ, PassesAt (L2N.CX X.prog X.w) (bxc X s H sc (ceAt X sc s.heap) fp Eb) τ (fun cls d H' => W cls d σ H')) →
      Inv (X.blk s H sc (ceAt X sc s.heap) fp) pb σ8 H8 z8 → step σ8 H8 Nx → (∀ z' H', Inv (X.blk s H sc (ceAt X sc s.heap) fp) pb σ8 H' z' → Nx H' → P z') → el P Eb z8)
    (w0 : V 0 m0 H) (turn : ∀ i m H, V i m H → (J.stop i H ∧ Q (.ref D) H) ∨ (J.go i H ∧ ∃ Nx : Hp → Prop, (∀ H', Nx H' → ∃ m', m' < m ∧ V (i + 1) m' H') ∧ ∀ x H', J.yld i H x H' →
      g x (wipe σ (own.map (·.2))) H' fun σ2 H2 => wipe σ2 (own.map (·.2)) = wipe σ (own.map (·.2)) ∧ tt σ2 H2 fun b H3 => if b = true then step σ2 H3 Nx else Nx H3))
    (hRR : ∀ C z m H', Inv X pins σ H' z → Q (.ref D) H' → z.heap.Ns C m → FpOk X pins H' C → (ceAt X sc s.heap).locals = C → CPst (model X.prog X.w) X.A X.xe use Qf (.ref D) (ceAt X sc s.heap) (.ok .next) z) :
    codeAny (model X.prog X.w) X.A cd (CPst (model X.prog X.w) X.A X.xe use Qf (.ref D) (ceAt X sc s.heap)) { s with heap := pushCells (s.heap.push { cls := .type "dict", data := .dict #[] }) sc.names } := by
  have J0 : Inv (X.blk s H sc (ceAt X sc s.heap) fp) [] (wipe σ (own.map (·.2))) H { s with heap := pushCells (s.heap.push { cls := .type "dict", data := .dict #[] }) sc.names } := block_start I ok hN hfp
  have pg : PG (X.blk s H sc (ceAt X sc s.heap) fp) tg g := hg s H s.heap.objs.size (cellsFrom (s.heap.objs.size + 1) sc.names (cloFrom X.env.cells sc.names [])) fp
  have pt : PTs (X.blk s H sc (ceAt X sc s.heap) fp) ifs tt := ht s H s.heap.objs.size (cellsFrom (s.heap.objs.size + 1) sc.names (cloFrom X.env.cells sc.names [])) fp
  generalize hce : ceAt X sc s.heap = ce at J0 pg pt hl hel hRR ⊢
  have eL : ce.locals = s.heap.objs.size := by rw [← hce] <;> rfl
  have eF : ce.frame = X.env.frame := by rw [← hce] <;> rfl
  have sta : ∀ {τ : L2.St} {H' : Hp} {z : Shared}, Inv (X.blk s H sc ce fp) [] τ H' z → (∀ b ∈ fp, H' b = none) → ∀ b ∈ fp, FpOk (X.blk s H sc ce fp) [] H' b := fun I' hn b hb =>
    ⟨hn b hb, (I'.ok.exf b hb).1, I'.ok.exfs b hb, .inl hb, fun x c e => (I'.ok.exf b hb).2 x c e, fun p hp => nomatch hp⟩
  -- from the block back into the def
  have back : ∀ {τ : L2.St} {pb : List (Addr × Obj)} {H' : Hp} {z : Shared}, Inv (X.blk s H sc ce fp) pb τ H' z → Inv X pins σ H' z ∧ (∃ m, z.heap.Ns ce.locals m) ∧ FpOk X pins H' ce.locals := fun {τ pb H' z} I' => by
    have nC : H' ce.locals = none := I'.free
    refine ⟨I.call' (ch := fp) I'.os I'.base I'.hok I'.bare fun b hb => ⟨(hfp b hb).1.2.2.2.1, (hfp b hb).1.2.1, (hfp b hb).1.2.2.2.2.1, (hfp b hb).1.2.2.2.2.2⟩, let ⟨m, hn, _⟩ := I'.loc; ⟨m, hn⟩, ?_⟩
    exact I.fpOk (Nat.le_of_eq eL.symm) nC
  refine hl _ (fun (n : Nat) (z : Shared) => ∃ (i : Nat) (H' : Hp), Inv (X.blk s H sc ce fp) [] (wipe σ (own.map (·.2))) H' z ∧ tn i z.heap ∧ (∀ b ∈ fp, H' b = none) ∧ V i n H') ?_ m0 _ ⟨0, H, J0, T.keep _ _ _ st fun b _ o e => pushCells_keeps _ _ _ _ (Heap.get?_push_of_some _ e), fun b hb => (hfp b hb).1.1, w0⟩
  rintro n z5 ⟨i, H5, I5, t5, n5, w5⟩
  unfold TurnAt
  rcases turn i n H5 w5 with ⟨stop, qq⟩ | ⟨go, Nx, hNx, stp⟩
  · refine thnF (T.done (X.blk s H sc ce fp) rfl rfl rfl hc i [] z5 _ H5 (fun _ _ => False) I5 (sta I5 n5) t5 stop) fun r z6 ⟨hr, I6⟩ => ?_
    subst hr
    obtain ⟨I7, ⟨m, hn⟩, fC⟩ := back I6
    exact hRR _ z6 m H5 I7 qq hn fC rfl
  · refine thnF (T.item (X.blk s H sc ce fp) rfl rfl rfl hc i [] z5 _ H5 (fun _ _ => False) I5 (sta I5 n5) t5 go) fun r z6 ⟨u, hr, h6⟩ => ?_
    subst hr
    refine thnF h6 fun _ z7 ⟨x, H7, I7, r7, y7, t7, n7⟩ => ?_
    refine thnF (pg.run _ z7 _ H7 x u _ (I7.pinned (sta I7 n7) (T.obj _ _ t7)) r7 (stp x H7 y7)) fun _ z8 ⟨σ8, H8, I8, q8'⟩ => ?_
    obtain ⟨e8, q8⟩ := q8'
    refine thnF (pt.run _ z8 σ8 H8 _ I8 q8) fun b z9 ⟨H9, I9, q9⟩ => ?_
    have fin : ∀ (z' : Shared) (H' : Hp), Inv (X.blk s H sc ce fp) ([] ++ pinsAt fp z7.heap) σ8 H' z' → Nx H' → ∃ m, m < n ∧ ∃ i H', Inv (X.blk s H sc ce fp) [] (wipe σ (own.map (·.2))) H' z' ∧ tn i z'.heap ∧ (∀ b ∈ fp, H' b = none) ∧ V i m H' := fun z' H' I' nx => by
      obtain ⟨m', hm, w'⟩ := hNx H' nx
      have pin' : ∀ b ∈ fp, ∀ o, z7.heap.get? b = some o → z'.heap.get? b = some o ∧ H' b = none := fun b hb o e =>
        have y := I'.pin (b, o) (List.mem_append_right _ (List.mem_append_right _ (mem_pinsAt hb e)))
        ⟨y.1, y.2.1⟩
      refine ⟨m', hm, i + 1, H', (I'.unpinned (pins := [])).weak (by rw [← e8, wipe_length]) (fun j v e => (wipe_some (e8.symm ▸ e)).1), T.keep _ _ _ t7 fun b hb o e => (pin' b hb o e).1, fun b hb => ?_, w'⟩
      obtain ⟨o, e, _⟩ := T.obj _ _ t7 b hb
      exact (pin' b hb o e).2
    cases b with
    | false => exact fin _ _ I9 (by simpa using q9)
    | true =>
      rw [if_pos rfl] at q9 ⊢
      refine hel σ8 H9 z9 _ Nx _ _ (fun τ pb Hb zb e zb' Ib c => ?_) I9 q9 fin
      obtain ⟨I7', ⟨m, hn⟩, fC⟩ := back (Inv.unwish Ib)
      exact block_out hs1 hf1 tkW I7' eF hn fC c
end
/-! ### lists -/
section
variable {X : Cx} {pins : List (Addr × Obj)} {s : Shared} {σ : L2.St} {H : Hp} {Q : VK} {W : WX} {elt tg iter kx : Expr} {ifs : List Expr} {sc : Scope} {own : List (Str × Nat)} {pos pos' : Pos} {wi : TI} {g : TG} {tt : TT} {te tk : TE} {use : Option (Value → Sem Unit)} {Qf : Value → Shared → Prop}
theorem lcx_core (hs1 : X.stack = X.env :: X.outer) (hf1 : X.env.frame = some X.env.locals) (tkW : L2N.Takes X W) (hc : X.calm = true) (hN : X.N.Nodup) (I : Inv X pins σ H s) (hi : PI X tg iter wi) (ok : BlkOk X.N X.env.scope sc own)
    (hg : ∀ (z : Shared) (H : Hp) (C : Addr) (cl : List (Str × Addr)) (fp : List Addr), PG (X.blk z H sc (compEnvC sc cl C X.env) fp) tg g)
    (ht : ∀ (z : Shared) (H : Hp) (C : Addr) (cl : List (Str × Addr)) (fp : List Addr), PTs (X.blk z H sc (compEnvC sc cl C X.env) fp) ifs tt)
    (he : BlkE X W σ sc elt te) (hs : ∀ x, foldedSetIterable iter X.env x = pure x) (h : tLc wi g tt te (own.map (·.2)) σ H Q)
    (hRR : ∀ D ce z m H', Inv X pins σ H' z → Q (.ref D) H' → z.heap.Ns ce.locals m → FpOk X pins H' ce.locals → CPst (model X.prog X.w) X.A X.xe use Qf (.ref D) ce (.ok .next) z) :
    wpAny (model X.prog X.w) X.A (comprehension (.ListComp elt [⟨tg, iter, ifs, 0⟩] sc pos) sc X.env pos' (newList []) false (eval iter X.env) use) Qf X.xe s := by
  refine comp_x (use := use) rfl hs (closure_ok fun y hy e => I.ok.has _ (ok.free y hy e)) ok.kind (fun y hy e => by rw [ok.uniq y hy, e]) (thn (hi.run pins s σ H _ I h) fun xv z1 hx => thn hx fun itv z2 hz => ?_)
  obtain ⟨it, fp, tn, J, H2, e, I2, T, t2, f2, q⟩ := hz
  subst e
  refine wpAny_newObj_type (newEnv_comp ?_) (by show 0 ≤ sizeLine; decide)
  generalize hD : z2.heap.objs.size = D
  obtain ⟨V, ⟨m0, w0⟩, turn⟩ := q D (I2.hok.fresh (Nat.le_of_eq hD))
  have f3 : ∀ b ∈ fp, FpOk X pins (upd H2 D (.lst [])) b ∧ b < (z2.heap.push { cls := .type "list", data := .seq ([] : List Value).toArray }).objs.size := fun b hb => by
    obtain ⟨o, e, _⟩ := T.obj _ _ t2 b hb
    have hlt := Heap.lt_size e
    refine ⟨⟨?_, (f2 b hb).2⟩, by rw [Heap.size_push]; exact Nat.lt_succ_of_lt hlt⟩
    rw [upd_ne (by rw [← hD]; exact Nat.ne_of_lt hlt)]
    exact (f2 b hb).1
  have I3 : Inv X pins σ (upd H2 D (.lst [])) { z2 with heap := z2.heap.push { cls := .type "list", data := .seq ([] : List Value).toArray } } := I2.laid (t' := z2.toks) (fun b o e => Heap.get?_push_of_some _ e) (Nat.le_of_eq hD) ⟨Nat.zero_le _, [], 0, .nil, by
    rw [← hD]
    exact Heap.get?_push_size _ rfl⟩
  have t3 : tn 0 (z2.heap.push { cls := .type "list", data := .seq ([] : List Value).toArray }) := T.keep _ _ _ t2 fun b _ o e => Heap.get?_push_of_some _ e
  have loop := blk_loop (use := use) (Qf := Qf) (Q := Q) (D := D) (W := W) (cd := .compLoop (.ListComp elt [⟨tg, iter, ifs, 0⟩] sc pos) 0 (.ref it) (.ref D) (ceAt X sc (z2.heap.push { cls := .type "list", data := .seq ([] : List Value).toArray })))
    (el := fun P Eb z => wpAny (model X.prog X.w) X.A (eval elt (ceAt X sc (z2.heap.push { cls := .type "list", data := .seq ([] : List Value).toArray }))) (fun x z => wpAny (model X.prog X.w) X.A (call (.builtin "list.append") [.ref D, x]) (fun _ z => P z) Eb z) Eb z)
    (step := fun σ2 H3 Nx => te σ2 H3 fun y H4 => ∃ acc, H4 D = some (.lst acc) ∧ acc.length < sizeLine ∧ Nx (upd H4 D (.lst (acc ++ [y])))) hs1 hf1 tkW hc hN I3 ok hg ht T t3 f3 (fun R Iv hI n z hz => ?_) (fun σ8 H8 z8 pb Nx P Eb hp I8 q8 fin => ?_) w0 turn (fun C z m H' I' qq hn fC eC => ?_)
  · exact codeAny_compStart_list loop (T.self X.A 0 _ _ _ (T.keep _ _ _ t3 fun b _ o e => pushCells_keeps _ _ _ _ (Heap.get?_push_of_some _ e)) loop)
  · refine compLoop_any Iv (fun n z hz => ?_) n hz
    exact hI n z hz
  · have pe := he _ _ _ _ fp Eb hp
    refine thn (pe.run pb z8 σ8 H8 _ (I8.wish Eb) q8) fun v z9 ⟨y, H9, I9, r9, acc, hD9, hz9, nx⟩ => ?_
    exact app_ok (X := bxc X _ _ sc _ fp Eb) I9 hD9 hz9 r9 fun z10 I10 => fin z10 _ (Inv.unwish I10) nx
  · exact hRR D _ z m H' I' qq (by rw [eC]; exact hn) (by rw [eC]; exact fC)
/-! ### dicts, keys ints or texts -/
theorem dcx_core (hs1 : X.stack = X.env :: X.outer) (hf1 : X.env.frame = some X.env.locals) (tkW : L2N.Takes X W) (hc : X.calm = true) (hN : X.N.Nodup) (I : Inv X pins σ H s) (hi : PI X tg iter wi) (ok : BlkOk X.N X.env.scope sc own)
    (hg : ∀ (z : Shared) (H : Hp) (C : Addr) (cl : List (Str × Addr)) (fp : List Addr), PG (X.blk z H sc (compEnvC sc cl C X.env) fp) tg g)
    (ht : ∀ (z : Shared) (H : Hp) (C : Addr) (cl : List (Str × Addr)) (fp : List Addr), PTs (X.blk z H sc (compEnvC sc cl C X.env) fp) ifs tt)
    (hk : BlkE X W σ sc kx tk) (he : BlkE X W σ sc elt te) (hs : ∀ x, foldedSetIterable iter X.env x = pure x) (h : tDc wi g tt tk te (own.map (·.2)) σ H Q)
    (hRR : ∀ D ce z m H', Inv X pins σ H' z → Q (.ref D) H' → z.heap.Ns ce.locals m → FpOk X pins H' ce.locals → CPst (model X.prog X.w) X.A X.xe use Qf (.ref D) ce (.ok .next) z) :
    wpAny (model X.prog X.w) X.A (comprehension (.DictComp kx elt [⟨tg, iter, ifs, 0⟩] sc pos) sc X.env pos' newDict false (eval iter X.env) use) Qf X.xe s := by
  refine comp_x (use := use) rfl hs (closure_ok fun y hy e => I.ok.has _ (ok.free y hy e)) ok.kind (fun y hy e => by rw [ok.uniq y hy, e]) (thn (hi.run pins s σ H _ I h) fun xv z1 hx => thn hx fun itv z2 hz => ?_)
  obtain ⟨it, fp, tn, J, H2, e, I2, T, t2, f2, q⟩ := hz
  subst e
  refine wpAny_newObj_type (newEnv_comp ?_)
  generalize hD : z2.heap.objs.size = D
  obtain ⟨V, ⟨m0, w0⟩, turn⟩ := q D (I2.hok.fresh (Nat.le_of_eq hD))
  have f3 : ∀ b ∈ fp, FpOk X pins (upd H2 D (.dK [])) b ∧ b < (z2.heap.push { cls := .type "dict", data := .dict #[] }).objs.size := fun b hb => by
    obtain ⟨o, e, _⟩ := T.obj _ _ t2 b hb
    have hlt := Heap.lt_size e
    refine ⟨⟨?_, (f2 b hb).2⟩, by rw [Heap.size_push]; exact Nat.lt_succ_of_lt hlt⟩
    rw [upd_ne (by rw [← hD]; exact Nat.ne_of_lt hlt)]
    exact (f2 b hb).1
  have I3 : Inv X pins σ (upd H2 D (.dK [])) { z2 with heap := z2.heap.push { cls := .type "dict", data := .dict #[] } } := I2.laid (t' := z2.toks) (fun b o e => Heap.get?_push_of_some _ e) (Nat.le_of_eq hD) (by
    rw [← hD]
    exact dk_empty z2.heap I2.big)
  have t3 : tn 0 (z2.heap.push { cls := .type "dict", data := .dict #[] }) := T.keep _ _ _ t2 fun b _ o e => Heap.get?_push_of_some _ e
  have loop := blk_loop (use := use) (Qf := Qf) (Q := Q) (D := D) (W := W) (cd := .compLoop (.DictComp kx elt [⟨tg, iter, ifs, 0⟩] sc pos) 0 (.ref it) (.ref D) (ceAt X sc (z2.heap.push { cls := .type "dict", data := .dict #[] })))
    (el := fun P Eb z => wpAny (model X.prog X.w) X.A (eval kx (ceAt X sc (z2.heap.push { cls := .type "dict", data := .dict #[] }))) (fun kv z => wpAny (model X.prog X.w) X.A (eval elt (ceAt X sc (z2.heap.push { cls := .type "dict", data := .dict #[] }))) (fun vv z => wpAny (model X.prog X.w) X.A (dictSet D kv vv) (fun _ z => P z) Eb z) Eb z) Eb z)
    (step := fun σ2 H3 Nx => tk σ2 H3 fun y H4 => te σ2 H4 fun v H5 => ∃ kvs k, y = kV k ∧ H5 D = some (.dK kvs) ∧ kvs.length < sizeLine ∧ Nx (upd H5 D (.dK (putK kvs k v)))) hs1 hf1 tkW hc hN I3 ok hg ht T t3 f3 (fun R Iv hI n z hz => ?_) (fun σ8 H8 z8 pb Nx P Eb hp I8 q8 fin => ?_) w0 turn (fun C z m H' I' qq hn fC eC => ?_)
  · exact codeAny_compStart_dict loop (T.self X.A 0 _ _ _ (T.keep _ _ _ t3 fun b _ o e => pushCells_keeps _ _ _ _ (Heap.get?_push_of_some _ e)) loop)
  · refine compLoop_anyD Iv (fun n z hz => ?_) n hz
    exact hI n z hz
  · refine thn ((hk _ _ _ _ fp Eb hp).run pb z8 σ8 H8 _ (I8.wish Eb) q8) fun kv z9 ⟨y, H9, I9, r9, q9⟩ => ?_
    refine thn ((he _ _ _ _ fp Eb hp).run pb z9 σ8 H9 _ I9 q9) fun vv z10 ⟨v, H10, I10, r10, kvs, k, ek, hD10, hz10, nx⟩ => ?_
    subst ek
    exact d_dictSet (X := bxc X _ _ sc _ fp Eb) I10 hD10 hz10 r9 r10 fun z11 I11 => fin z11 _ (Inv.unwish I11) nx
  · exact hRR D _ z m H' I' qq (by rw [eC]; exact hn) (by rw [eC]; exact fC)
/-! ### as rules -/
variable {teσ tkσ : L2.St → TE}
theorem pe_lcx (hs1 : X.stack = X.env :: X.outer) (hf1 : X.env.frame = some X.env.locals) (tkW : L2N.Takes X W) (hc : X.calm = true) (hN : X.N.Nodup) (hi : PI X tg iter wi) (ok : BlkOk X.N X.env.scope sc own)
    (hg : ∀ (z : Shared) (H : Hp) (C : Addr) (cl : List (Str × Addr)) (fp : List Addr), PG (X.blk z H sc (compEnvC sc cl C X.env) fp) tg g)
    (ht : ∀ (z : Shared) (H : Hp) (C : Addr) (cl : List (Str × Addr)) (fp : List Addr), PTs (X.blk z H sc (compEnvC sc cl C X.env) fp) ifs tt)
    (he : ∀ σ, BlkE X W σ sc elt (teσ σ)) (hs : ∀ x, foldedSetIterable iter X.env x = pure x := by intro _; rfl) :
    PE X (.ListComp elt [⟨tg, iter, ifs, 0⟩] sc pos) (fun σ => tLc wi g tt (teσ σ) (own.map (·.2)) σ) := by
  refine ⟨fun pins s σ H Q I h => ?_⟩
  rw [eval_ListComp]
  refine lcx_core hs1 hf1 tkW hc hN I hi ok hg ht (he σ) hs h fun D ce z m H' I' q hn f => ⟨m, hn, fun g2 sb => ?_⟩
  exact ⟨.ref D, H', I'.turned (t' := z.toks) (fun b o hb e => (sb.2 b hb).trans e) f.1 f.2.1 f.2.2.2.1 f.2.2.2.2.1 f.2.2.2.2.2, rfl, q⟩
theorem pe_dcx (hs1 : X.stack = X.env :: X.outer) (hf1 : X.env.frame = some X.env.locals) (tkW : L2N.Takes X W) (hc : X.calm = true) (hN : X.N.Nodup) (hi : PI X tg iter wi) (ok : BlkOk X.N X.env.scope sc own)
    (hg : ∀ (z : Shared) (H : Hp) (C : Addr) (cl : List (Str × Addr)) (fp : List Addr), PG (X.blk z H sc (compEnvC sc cl C X.env) fp) tg g)
    (ht : ∀ (z : Shared) (H : Hp) (C : Addr) (cl : List (Str × Addr)) (fp : List Addr), PTs (X.blk z H sc (compEnvC sc cl C X.env) fp) ifs tt)
    (hk : ∀ σ, BlkE X W σ sc kx (tkσ σ)) (he : ∀ σ, BlkE X W σ sc elt (teσ σ)) (hs : ∀ x, foldedSetIterable iter X.env x = pure x := by intro _; rfl) :
    PE X (.DictComp kx elt [⟨tg, iter, ifs, 0⟩] sc pos) (fun σ => tDc wi g tt (tkσ σ) (teσ σ) (own.map (·.2)) σ) := by
  refine ⟨fun pins s σ H Q I h => ?_⟩
  rw [arm_eval_DictComp]
  refine dcx_core hs1 hf1 tkW hc hN I hi ok hg ht (hk σ) (he σ) hs h fun D ce z m H' I' q hn f => ⟨m, hn, fun g2 sb => ?_⟩
  exact ⟨.ref D, H', I'.turned (t' := z.toks) (fun b o hb e => (sb.2 b hb).trans e) f.1 f.2.1 f.2.2.2.1 f.2.2.2.2.1 f.2.2.2.2.2, rfl, q⟩
theorem ps_setLcx {i : Nat} {y : Str} {py spos : Pos} (hs1 : X.stack = X.env :: X.outer) (hf1 : X.env.frame = some X.env.locals) (tkW : L2N.Takes X W) (hc : X.calm = true) (hN : X.N.Nodup) (hy : X.N[i]? = some y) (hyl : X.env.scope.names.lookup y = some .local)
    (hsw : swapsWith (.ListComp elt [⟨tg, iter, ifs, 0⟩] sc pos) (some (.Name y py)) spos.line X.env = pure true) (hi : PI X tg iter wi) (ok : BlkOk X.N X.env.scope sc own)
    (hg : ∀ (z : Shared) (H : Hp) (C : Addr) (cl : List (Str × Addr)) (fp : List Addr), PG (X.blk z H sc (compEnvC sc cl C X.env) fp) tg g)
    (ht : ∀ (z : Shared) (H : Hp) (C : Addr) (cl : List (Str × Addr)) (fp : List Addr), PTs (X.blk z H sc (compEnvC sc cl C X.env) fp) ifs tt)
    (he : ∀ σ, BlkE X W σ sc elt (teσ σ)) (hs : ∀ x, foldedSetIterable iter X.env x = pure x := by intro _; rfl) :
    PS X (.Assign [.Name y py] (.ListComp elt [⟨tg, iter, ifs, 0⟩] sc pos) spos) (tAsg (fun σ => tLc wi g tt (teσ σ) (own.map (·.2)) σ) (gName i)) := by
  refine ⟨fun pins s σ H D I h => ?_⟩
  rw [exec_Assign_Name_used _ _ _ _ hsw]
  refine wpAny_bind (wpAny_standAt (wpAny_bind (wpAny_bind (thn (lcx_core (pos' := firstIterPos [⟨tg, iter, ifs, 0⟩] pos) (use := some (assign (.Name y py) X.env)) (Qf := fun _ s' => SP X pins D .next s') (Q := fun x H1 => gName i x σ H1 D.nx) hs1 hf1 tkW hc hN I hi ok hg ht (he σ) hs h fun L ce z m H' I' q hn f => ?_) fun _ s' hq => wpAny_pure (wpAny_pure hq)))))
  show wpAny _ _ (assign (.Name y py) X.env (.ref L)) _ _ _
  refine wpAny_assign_Name (store_ok2 (v := V.ref L) I' hN hy (.inl hyl) rfl (fun s2 I2 ⟨a, sb, ha⟩ => ?_) (.inr hyl))
  have haC : ce.locals ≠ a := by
    rcases ha with z | z
    · rw [z]; exact f.2.1
    · exact fun e => f.2.2.2.2.1 y a z e.symm
  refine ⟨m, hn.sameBut sb haC, fun g3 sb3 => ?_⟩
  exact ⟨_, H', I2.turned (t' := s2.toks) (fun b o hb e => (sb3.2 b hb).trans e) f.1 f.2.1 f.2.2.2.1 f.2.2.2.2.1 f.2.2.2.2.2, q⟩
end
end DL

set_option Elab.async false
set_option linter.all false
set_option maxRecDepth 100000
set_option maxHeartbeats 4000000
set_option autoImplicit false
namespace DL
open PySem PySem.Spec PyProof.Rows L2
/-! ### comprehensions by data, their element may raise; dict comprehensions -/
def dLcX (mk : Bool) (ti : DI) (g : DG) (tt : DT) (te : DXW → DE) (ws : List Nat) (RX : DXW) : DE := fun σ G R => dLc mk ti g tt (te fun cls fs _ G' => RX cls fs σ G') ws σ G R
def dDcGo (g : DG) (tt : DT) (tk tv : DE) (gd : Gp → Prop) (σ : Sd) : List D → List (Key × D) → Gp → (List (Key × D) → Gp → Prop) → Prop
  | [], acc, G, Q => gd G ∧ Q acc G
  | x :: xs, acc, G, Q => gd G ∧ g x σ G fun σ2 G2 => tt σ2 G2 fun b G3 => match b with
    | true => tk σ2 G3 fun y G4 => tv σ2 G4 fun z G5 => ∃ k, y = kD k ∧ dDcGo g tt tk tv gd σ xs (putKD acc k z) G5 Q
    | false => dDcGo g tt tk tv gd σ xs acc G3 Q
def dDc (ti : DI) (g : DG) (tt : DT) (tk tv : DE) (ws : List Nat) : DE := fun σ G R => ti σ G fun xs gd G1 => xs.length ≤ sizeLine ∧ dDcGo g tt tk tv gd (wipeD σ ws) xs [] G1 fun kvs G2 => ∀ p, G2 p = none → R (.ref p) (gup G2 p (.dK kvs))
def dDcX (ti : DI) (g : DG) (tt : DT) (tk tv : DXW → DE) (ws : List Nat) (RX : DXW) : DE := fun σ G R => dDc ti g tt (tk fun cls fs _ G' => RX cls fs σ G') (tv fun cls fs _ G' => RX cls fs σ G') ws σ G R
theorem wipe_again {τ : L2.St} : ∀ (us vs : List Nat), (∀ v ∈ us, v ∈ vs) → L2.wipe (L2.wipe τ vs) us = L2.wipe τ vs
  | [], _, _ => rfl
  | u :: us, vs, hv => by
    show (L2.wipe (L2.wipe τ vs) us).set u none = _
    rw [wipe_again us vs (fun v h => hv v (List.mem_cons_of_mem _ h))]
    have hm := hv u List.mem_cons_self
    apply List.ext_getElem?
    intro j
    by_cases hj : u = j
    · subst hj
      rw [List.getElem?_set]
      simp only [if_true]
      have hn : ∀ x, (L2.wipe τ vs)[u]? ≠ some (some x) := fun x e => (wipe_some e).2 hm
      split
      · rename_i hlt
        rw [List.getElem?_eq_getElem hlt] at hn ⊢
        cases e : (L2.wipe τ vs)[u] with
        | none => rfl
        | some z => exact absurd (by rw [e]) (hn z)
      · rename_i hge
        rw [List.getElem?_eq_none (by omega)]
    · rw [List.getElem?_set_ne hj]
theorem UpX.blk {K : PySem.W.Frag} {H H' : Hp} {N N' : Ns} {G G' : Gp} {RX : DXW} {W : WX} {σ : Sd} {τ : L2.St} (q : UpX K H N G RX W) (s : Stp K H N G H' N' G') (rs : RSt K H N σ τ) : UpX K H' N' G' (fun cls fs _ G' => RX cls fs σ G') (fun cls d _ H' => W cls d τ H') :=
  fun cls fs _ G2 N2 _ H2 d r s2 _ x => q cls fs σ G2 N2 τ H2 d r (s.trans s2) (rs.le (s.trans s2).kp) x
theorem up_lcX {K : PySem.W.Frag} {W : WX} {mk : Bool} {ti : DI} {vg : TG} {g : DG} {tt : DT} {te : DXW → DE} {ws : List Nat} (tgo : TgOk K vg g ws) {τ : L2.St} {H : Hp} {Q : VK} (h : upX K W (fun RX => dLcX mk ti g tt te ws RX) τ H Q) :
    tLc (upI K ti) vg (upT K tt) (upX K (fun cls d _ H' => W cls d τ H') te) ws τ H Q := by
  obtain ⟨σ, G, N, R, RX, hs, hg, ht, q, qx⟩ := h
  unfold dLcX at ht
  generalize et : (te fun cls fs _ G' => RX cls fs σ G') = te' at ht
  refine ⟨σ, G, N, _, hs, hg, ht, fun xs gd G1 N1 J H1 h1 s1 y => ?_⟩
  obtain ⟨hlen, h1⟩ := h1
  intro p np
  have q1 := q.le s1
  let Q' : List D → Gp → Prop := fun ds G2 => newL mk ds G2 R
  refine ⟨fun i m H' => m = xs.length - i ∧ i ≤ xs.length ∧ ∃ acc vacc G' N', H' p = some (.lst vacc) ∧ RDs K H' N' acc vacc ∧ acc.length ≤ i ∧ G' p = none ∧ N' p ∧ Stp K H1 N1 G1 H' N' G' ∧ dLcGo g tt te' gd (wipeD σ ws) (xs.drop i) acc G' Q',
    ⟨xs.length, rfl, Nat.zero_le _, [], [], G1, nadd N1 p, upd_same, RDs.nil, Nat.zero_le _, s1.rel.free np, .inl rfl, ?_, h1⟩, ?_⟩
  · refine ⟨Kp.new np, fun q x e n => ⟨by rw [upd_ne (ne_of_none e np)]; exact e, n, .inr⟩, fun a o' e => ?_⟩
    obtain ⟨x, hx, _⟩ := (s1.rel a o' e).2.here
    exact ⟨.inr (s1.rel a o' e).1, (s1.rel a o' e).2.le (Kp.new np) (upd_ne (ne_of_none hx np))⟩
  rintro i m H2 ⟨rfl, hi, acc, vacc, G2, N2, hp2, ra2, hal, gp2, nn2, s2, h2⟩
  by_cases hlt : i < xs.length
  · rw [List.drop_eq_getElem_cons hlt] at h2
    obtain ⟨hgd, h2⟩ := h2
    obtain ⟨go, yld⟩ := y.go i H2 N2 G2 xs[i] s2 hgd (List.getElem?_eq_getElem hlt)
    refine .inr ⟨go, fun H' => ∃ acc vacc G' N', H' p = some (.lst vacc) ∧ RDs K H' N' acc vacc ∧ acc.length ≤ i + 1 ∧ G' p = none ∧ N' p ∧ Stp K H1 N1 G1 H' N' G' ∧ dLcGo g tt te' gd (wipeD σ ws) (xs.drop (i + 1)) acc G' Q', fun H' z => ⟨xs.length - (i + 1), by omega, rfl, hlt, z⟩, fun x H3 hy => ?_⟩
    obtain ⟨s3, r3⟩ := yld x H3 hy
    have rw3 : RSt K H3 N2 (wipeD σ ws) (L2.wipe τ ws) := (((hs.le s1.kp).le s2.kp).le s3.kp).wipe ws
    refine tgo xs[i] x (wipeD σ ws) (L2.wipe τ ws) H3 N2 G2 _ _ r3 rw3 s3.rel h2 fun σ4 τ4 h4 r4 w4 => ⟨by rw [w4]; exact wipe_again ws ws fun v h => h, ?_⟩
    refine ⟨σ4, G2, N2, _, r4, s3.rel, h4, fun b G5 N5 H5 h5 s5 => ?_⟩
    obtain ⟨hp3, gp3, _⟩ := s3.fr p _ hp2 gp2
    obtain ⟨hp5, gp5, nn5⟩ := s5.fr p _ hp3 gp3
    have s25 := (s2.trans s3).trans s5
    cases b with
    | false =>
      rw [if_neg Bool.false_ne_true]
      exact ⟨acc, vacc, G5, N5, hp5, (ra2.le s3.kp).le s5.kp, by omega, gp5, nn5 nn2, s25, h5⟩
    | true =>
      rw [if_pos rfl]
      rw [← et] at h5
      refine ⟨σ4, G5, N5, _, _, r4.le s5.kp, s5.rel, h5, fun d G6 N6 v6 H6 h6 s6 r6 => ?_, qx.blk (s1.trans s25) hs⟩
      rw [et] at h6
      obtain ⟨hp6, gp6, nn6⟩ := s6.fr p _ hp5 gp5
      have s26 := s25.trans s6
      have ra6 := ((ra2.le s3.kp).le s5.kp).le s6.kp
      have kw := Kp.write (u := .lst (vacc ++ [v6])) (nn6 (nn5 nn2)) hp6 rfl rfl
      have hl6 := ra6.length
      refine ⟨vacc, hp6, by omega, acc ++ [d], vacc ++ [v6], G6, N6, upd_same, (RDs.append ra6 (RDs.cons r6 RDs.nil)).le kw, by simp; omega, gp6, nn6 (nn5 nn2), s26.poke np hp6 gp6 (nn6 (nn5 nn2)) rfl rfl, h6⟩
  · have e : i = xs.length := by omega
    subst e
    rw [List.drop_length] at h2
    refine .inl ⟨y.stop _ H2 N2 G2 s2 h2.1 rfl, ?_⟩
    have h3 : newL mk acc G2 R := h2.2
    cases mk with
    | true => exact q1 (.ref p) (gup G2 p (.lst acc)) N2 _ _ (h3 p gp2) (s2.know np nn2 ⟨vacc, hp2, ra2⟩) (RD.ref p)
    | false => exact q1 (.lst acc) G2 (ndel N2 p) _ _ h3 (s2.calm (.inl np) gp2) (RD.lst (.inl ⟨hp2, fun z => z.1 rfl⟩) (ra2.le Kp.calm))
theorem putKD_length {kvs : List (Key × D)} {k : Key} {v : D} : (putKD kvs k v).length ≤ kvs.length + 1 := by
  unfold putKD
  split
  · rw [List.length_map]; omega
  · simp
theorem RKV.length {K : PySem.W.Frag} {H : Hp} {N : Ns} {a : List (Key × D)} {b : List (Key × V)} (h : RKV K H N a b) : a.length = b.length := Paired.length h
theorem up_dcX {K : PySem.W.Frag} {W : WX} {ti : DI} {vg : TG} {g : DG} {tt : DT} {tk te : DXW → DE} {ws : List Nat} (tgo : TgOk K vg g ws) {τ : L2.St} {H : Hp} {Q : VK} (h : upX K W (fun RX => dDcX ti g tt tk te ws RX) τ H Q) :
    tDc (upI K ti) vg (upT K tt) (upX K (fun cls d _ H' => W cls d τ H') tk) (upX K (fun cls d _ H' => W cls d τ H') te) ws τ H Q := by
  obtain ⟨σ, G, N, R, RX, hs, hg, ht, q, qx⟩ := h
  unfold dDcX at ht
  generalize et : (te fun cls fs _ G' => RX cls fs σ G') = te' at ht
  generalize ek : (tk fun cls fs _ G' => RX cls fs σ G') = tk' at ht
  refine ⟨σ, G, N, _, hs, hg, ht, fun xs gd G1 N1 J H1 h1 s1 y => ?_⟩
  obtain ⟨hlen, h1⟩ := h1
  intro p np
  have q1 := q.le s1
  let Q' : List (Key × D) → Gp → Prop := fun kvs G2 => ∀ p, G2 p = none → R (.ref p) (gup G2 p (.dK kvs))
  refine ⟨fun i m H' => m = xs.length - i ∧ i ≤ xs.length ∧ ∃ acc vacc G' N', H' p = some (.dK vacc) ∧ RKV K H' N' acc vacc ∧ acc.length ≤ i ∧ G' p = none ∧ N' p ∧ Stp K H1 N1 G1 H' N' G' ∧ dDcGo g tt tk' te' gd (wipeD σ ws) (xs.drop i) acc G' Q',
    ⟨xs.length, rfl, Nat.zero_le _, [], [], G1, nadd N1 p, upd_same, .nil, Nat.zero_le _, s1.rel.free np, .inl rfl, ?_, h1⟩, ?_⟩
  · refine ⟨Kp.new np, fun q x e n => ⟨by rw [upd_ne (ne_of_none e np)]; exact e, n, .inr⟩, fun a o' e => ?_⟩
    obtain ⟨x, hx, _⟩ := (s1.rel a o' e).2.here
    exact ⟨.inr (s1.rel a o' e).1, (s1.rel a o' e).2.le (Kp.new np) (upd_ne (ne_of_none hx np))⟩
  rintro i m H2 ⟨rfl, hi, acc, vacc, G2, N2, hp2, ra2, hal, gp2, nn2, s2, h2⟩
  by_cases hlt : i < xs.length
  · rw [List.drop_eq_getElem_cons hlt] at h2
    obtain ⟨hgd, h2⟩ := h2
    obtain ⟨go, yld⟩ := y.go i H2 N2 G2 xs[i] s2 hgd (List.getElem?_eq_getElem hlt)
    refine .inr ⟨go, fun H' => ∃ acc vacc G' N', H' p = some (.dK vacc) ∧ RKV K H' N' acc vacc ∧ acc.length ≤ i + 1 ∧ G' p = none ∧ N' p ∧ Stp K H1 N1 G1 H' N' G' ∧ dDcGo g tt tk' te' gd (wipeD σ ws) (xs.drop (i + 1)) acc G' Q', fun H' z => ⟨xs.length - (i + 1), by omega, rfl, hlt, z⟩, fun x H3 hy => ?_⟩
    obtain ⟨s3, r3⟩ := yld x H3 hy
    have rw3 : RSt K H3 N2 (wipeD σ ws) (L2.wipe τ ws) := (((hs.le s1.kp).le s2.kp).le s3.kp).wipe ws
    refine tgo xs[i] x (wipeD σ ws) (L2.wipe τ ws) H3 N2 G2 _ _ r3 rw3 s3.rel h2 fun σ4 τ4 h4 r4 w4 => ⟨by rw [w4]; exact wipe_again ws ws fun v h => h, ?_⟩
    refine ⟨σ4, G2, N2, _, r4, s3.rel, h4, fun b G5 N5 H5 h5 s5 => ?_⟩
    obtain ⟨hp3, gp3, _⟩ := s3.fr p _ hp2 gp2
    obtain ⟨hp5, gp5, nn5⟩ := s5.fr p _ hp3 gp3
    have s25 := (s2.trans s3).trans s5
    cases b with
    | false =>
      rw [if_neg Bool.false_ne_true]
      exact ⟨acc, vacc, G5, N5, hp5, (ra2.le s3.kp).le s5.kp, by omega, gp5, nn5 nn2, s25, h5⟩
    | true =>
      rw [if_pos rfl]
      rw [← ek, ← et] at h5
      refine ⟨σ4, G5, N5, _, _, r4.le s5.kp, s5.rel, h5, fun d6 G6 N6 v6 H6 h6 s6 r6 => ?_, qx.blk (s1.trans s25) hs⟩
      refine ⟨σ4, G6, N6, _, _, (r4.le s5.kp).le s6.kp, s6.rel, h6, fun d7 G7 N7 v7 H7 h7 s7 r7 => ?_, qx.blk (s1.trans (s25.trans s6)) hs⟩
      obtain ⟨k, rfl, h7⟩ := h7
      rw [ek, et] at h7
      obtain ⟨hp6, gp6, nn6⟩ := s6.fr p _ hp5 gp5
      obtain ⟨hp7, gp7, nn7⟩ := s7.fr p _ hp6 gp6
      have s27 := (s25.trans s6).trans s7
      have ra7 := (((ra2.le s3.kp).le s5.kp).le s6.kp).le s7.kp
      have nnp := nn7 (nn6 (nn5 nn2))
      have kw := Kp.write (u := .dK (putK vacc k v7)) nnp hp7 rfl rfl
      have hl7 := ra7.length
      have hl8 := putKD_length (kvs := acc) (k := k) (v := d7)
      refine ⟨vacc, k, ?_, hp7, by omega, putKD acc k d7, putK vacc k v7, G7, N7, upd_same, RKV.le kw (put_rel r7 ra7), by omega, gp7, nnp, s27.poke np hp7 gp7 nnp rfl rfl, h7⟩
      cases k with
      | inl n => exact r6.of_int
      | inr z => exact r6.of_str
  · have e : i = xs.length := by omega
    subst e
    rw [List.drop_length] at h2
    refine .inl ⟨y.stop _ H2 N2 G2 s2 h2.1 rfl, ?_⟩
    exact q1 (.ref p) (gup G2 p (.dK acc)) N2 _ _ (h2.2 p gp2) (s2.know np nn2 ⟨vacc, hp2, ra2⟩) (RD.ref p)
section
variable {X : Cx} {W : WX}
theorem ex_lc (mk : Bool) {elt tg iter : Expr} {ifs : List Expr} {scope : Scope} {own : List (Str × Nat)} {pos : Pos} {ti : DI} {vg : TG} {g : DG} {tt : DT} {te : DXW → DE} (hs1 : X.stack = X.env :: X.outer) (hf1 : X.env.frame = some X.env.locals) (tkW : L2N.Takes X W)
    (hc : X.calm = true) (hN : X.N.Nodup) (hi : QI X tg iter ti) (ok : BlkOk X.N X.env.scope scope own)
    (hg : ∀ (s : Shared) (H : Hp) (C : Addr) (cl : List (Str × Addr)) (fp : List Addr), PG (X.blk s H scope (compEnvC scope cl C X.env) fp) tg vg) (tgo : TgOk X.K vg g (own.map (·.2)))
    (ht : ∀ (s : Shared) (H : Hp) (C : Addr) (cl : List (Str × Addr)) (fp : List Addr), QTs (X.blk s H scope (compEnvC scope cl C X.env) fp) ifs tt)
    (he : ∀ (τ : L2.St) (z : Shared) (H : Hp) (C : Addr) (cl : List (Str × Addr)) (fp : List Addr) (xe : Value → Shared → Prop), (∀ τ', PassesAt (L2N.CX X.prog X.w) (bxc X z H scope (compEnvC scope cl C X.env) fp xe) τ' (fun cls d H' => W cls d τ H')) →
      QEX (bxc X z H scope (compEnvC scope cl C X.env) fp xe) (fun cls d _ H' => W cls d τ H') elt te) (hs : ∀ x, foldedSetIterable iter X.env x = pure x := by intro _; rfl) :
    QEX X W (.ListComp elt [⟨tg, iter, ifs, 0⟩] scope pos) (fun RX => dLcX mk ti g tt te (own.map (·.2)) RX) :=
  pe_mono (pe_lcx (wi := upI X.K ti) (tt := upT X.K tt) (teσ := fun τ => upX X.K (fun cls d _ H' => W cls d τ H') te) hs1 hf1 tkW hc hN hi ok hg ht he hs) fun τ H Q h => up_lcX tgo h
theorem sx_setLc (mk : Bool) {i : Nat} {y : Str} {py : Pos} {elt tg iter : Expr} {ifs : List Expr} {scope : Scope} {own : List (Str × Nat)} {pos spos : Pos} {ti : DI} {vg : TG} {g : DG} {tt : DT} {te : DXW → DE} (hs1 : X.stack = X.env :: X.outer) (hf1 : X.env.frame = some X.env.locals) (tkW : L2N.Takes X W)
    (hc : X.calm = true) (hN : X.N.Nodup) (hy : X.N[i]? = some y) (hyl : X.env.scope.names.lookup y = some .local)
    (hsw : swapsWith (.ListComp elt [⟨tg, iter, ifs, 0⟩] scope pos) (some (.Name y py)) spos.line X.env = pure true) (hi : QI X tg iter ti) (ok : BlkOk X.N X.env.scope scope own)
    (hg : ∀ (s : Shared) (H : Hp) (C : Addr) (cl : List (Str × Addr)) (fp : List Addr), PG (X.blk s H scope (compEnvC scope cl C X.env) fp) tg vg) (tgo : TgOk X.K vg g (own.map (·.2)))
    (ht : ∀ (s : Shared) (H : Hp) (C : Addr) (cl : List (Str × Addr)) (fp : List Addr), QTs (X.blk s H scope (compEnvC scope cl C X.env) fp) ifs tt)
    (he : ∀ (τ : L2.St) (z : Shared) (H : Hp) (C : Addr) (cl : List (Str × Addr)) (fp : List Addr) (xe : Value → Shared → Prop), (∀ τ', PassesAt (L2N.CX X.prog X.w) (bxc X z H scope (compEnvC scope cl C X.env) fp xe) τ' (fun cls d H' => W cls d τ H')) →
      QEX (bxc X z H scope (compEnvC scope cl C X.env) fp xe) (fun cls d _ H' => W cls d τ H') elt te) (hs : ∀ x, foldedSetIterable iter X.env x = pure x := by intro _; rfl) :
    QSX X W (.Assign [.Name y py] (.ListComp elt [⟨tg, iter, ifs, 0⟩] scope pos) spos) (fun RX => dAsg (dLcX mk ti g tt te (own.map (·.2)) RX) (dName i)) :=
  ps_mono (ps_setLcx (wi := upI X.K ti) (tt := upT X.K tt) (teσ := fun τ => upX X.K (fun cls d _ H' => W cls d τ H') te) hs1 hf1 tkW hc hN hy hyl hsw hi ok hg ht he hs) fun D τ H h => by
    obtain ⟨σ, G, N, E, RX, hs, hg, ht, q, qx⟩ := h
    have z := up_lcX (Q := fun v H' => D.nx (τ.set i (some v)) H') tgo ⟨σ, G, N, _, RX, hs, hg, ht, fun d G' N' v H' h s' r => q.nx _ _ _ _ _ h s' ((hs.le s'.kp).set r i), qx⟩
    exact z
theorem ex_dc {kx elt tg iter : Expr} {ifs : List Expr} {scope : Scope} {own : List (Str × Nat)} {pos : Pos} {ti : DI} {vg : TG} {g : DG} {tt : DT} {tk te : DXW → DE} (hs1 : X.stack = X.env :: X.outer) (hf1 : X.env.frame = some X.env.locals) (tkW : L2N.Takes X W)
    (hc : X.calm = true) (hN : X.N.Nodup) (hi : QI X tg iter ti) (ok : BlkOk X.N X.env.scope scope own)
    (hg : ∀ (s : Shared) (H : Hp) (C : Addr) (cl : List (Str × Addr)) (fp : List Addr), PG (X.blk s H scope (compEnvC scope cl C X.env) fp) tg vg) (tgo : TgOk X.K vg g (own.map (·.2)))
    (ht : ∀ (s : Shared) (H : Hp) (C : Addr) (cl : List (Str × Addr)) (fp : List Addr), QTs (X.blk s H scope (compEnvC scope cl C X.env) fp) ifs tt)
    (hk : ∀ (τ : L2.St) (z : Shared) (H : Hp) (C : Addr) (cl : List (Str × Addr)) (fp : List Addr) (xe : Value → Shared → Prop), (∀ τ', PassesAt (L2N.CX X.prog X.w) (bxc X z H scope (compEnvC scope cl C X.env) fp xe) τ' (fun cls d H' => W cls d τ H')) →
      QEX (bxc X z H scope (compEnvC scope cl C X.env) fp xe) (fun cls d _ H' => W cls d τ H') kx tk)
    (he : ∀ (τ : L2.St) (z : Shared) (H : Hp) (C : Addr) (cl : List (Str × Addr)) (fp : List Addr) (xe : Value → Shared → Prop), (∀ τ', PassesAt (L2N.CX X.prog X.w) (bxc X z H scope (compEnvC scope cl C X.env) fp xe) τ' (fun cls d H' => W cls d τ H')) →
      QEX (bxc X z H scope (compEnvC scope cl C X.env) fp xe) (fun cls d _ H' => W cls d τ H') elt te) (hs : ∀ x, foldedSetIterable iter X.env x = pure x := by intro _; rfl) :
    QEX X W (.DictComp kx elt [⟨tg, iter, ifs, 0⟩] scope pos) (fun RX => dDcX ti g tt tk te (own.map (·.2)) RX) :=
  pe_mono (pe_dcx (wi := upI X.K ti) (tt := upT X.K tt) (tkσ := fun τ => upX X.K (fun cls d _ H' => W cls d τ H') tk) (teσ := fun τ => upX X.K (fun cls d _ H' => W cls d τ H') te) hs1 hf1 tkW hc hN hi ok hg ht hk he hs) fun τ H Q h => up_dcX tgo h
/-! ### raise, try -/
def dRaise (cls : Value) (RX : DXW) : DS := fun _ σ G => ∃ G', Sub G' G ∧ RX cls [] σ G'
theorem sx_raise {C : Addr} {bmB : List Value} {B newId initId : String} {x m : Str} {j : Nat} {p p2 pos cpos : Pos} (hc : X.calm = true) (tk : L2N.Takes X W) (F : ExcBaseFacts B newId initId bmB) (q : PySem.W.excIn X.K C bmB newId = true) (gC : X.mg x = some (.ref C)) (kC : PySem.W.keepIn X.K (.ref C) = true)
    (b : PySem.W.subIn X.K (.ref C) (.type "BaseException") = some true) (t : PySem.W.typeIn X.K (.ref C) = some (.type "type")) (hg : Gl X x) (hdb : (x == ("__debug__" : Str)) = false := by decide) :
    QSX X W (.Raise (some (.Call (.Name x p) [.Constant (.str m) j p2] [] cpos)) none pos) (fun RX => dRaise (.ref C) RX) := ps_mono (L2N.ps_raise hc tk (L2N.pmk_own F q gC kC (raises_own b t) hg hdb)) fun D τ H h => by
  obtain ⟨σ, G, N, E, RX, hs, hg, ⟨G', sb, ht⟩, q, qx⟩ := h
  exact qx _ [] σ G' N τ H none ht (hg.sub sb) hs rfl
/-- what the clauses of a try make of a wish -/
def hands (K : PySem.W.Frag) (E : DEnds) (RX : DXW) : List (Value × DS) → DXW
  | [] => RX
  | (c, ts) :: r => fun cls fs σ G => ∃ b, PySem.W.exmOne K cls c = some b ∧ br b (ts E σ G) (hands K E RX r cls fs σ G)
inductive HdsD (X : Cx) : List ExceptHandler → List (Value × DS) → Prop
  | nil : HdsD X [] []
  | cons {x : Str} {c : Value} {ts : DS} {b₀ : Stmt} {suite : List Stmt} {np pos' : Pos} {hds : List ExceptHandler} {l : List (Value × DS)} (hc : Names X x c) (hsu : ∀ (a : Addr) (oe : Obj) (pn : List (Addr × Obj)), QSs (X.suite a ((a, oe) :: pn)) (b₀ :: suite) ts) (r : HdsD X hds l) :
      HdsD X (.ExceptHandler (some (.Name x np)) none (b₀ :: suite) pos' :: hds) ((c, ts) :: l)
theorem HdsD.ok {hds : List ExceptHandler} {l : List (Value × DS)} (h : HdsD X hds l) : L2N.HdsOk X hds (l.map fun q => (q.1, fun _ _ _ => upS X.K q.2)) := by
  induction h with
  | nil => exact .nil
  | cons hc hsu r ih => exact .cons hc (fun a oe cls d pn _ _ => hsu a oe pn) ih
theorem hands_up {K : PySem.W.Frag} {H : Hp} {N : Ns} {G : Gp} {E : DEnds} {D : Ends} {RX : DXW} {Wout : WX} (q : UpE K H N G E D) (qx : UpX K H N G RX Wout) : ∀ l : List (Value × DS), UpX K H N G (hands K E RX l) (wMany K Wout D (l.map fun q => (q.1, fun _ _ _ => upS K q.2)))
  | [] => qx
  | (c, ts) :: r => fun cls fs σ' G' N' τ' H' d h s rs xd => by
    obtain ⟨b, e, h⟩ := h
    refine ⟨b, e, fun eb a _ => ?_, fun eb => ?_⟩
    · subst eb
      exact ⟨σ', G', N', E, rs, s.rel, h, q.le s⟩
    · subst eb
      exact hands_up q qx r cls fs σ' G' N' τ' H' d h s rs xd
def dTry (K : PySem.W.Frag) (tb : DXW → DS) (l : List (Value × DS)) (RX : DXW) : DS := fun E σ G => tb (hands K E RX l) E σ G
theorem sx_try {body : List Stmt} {h₀ : ExceptHandler} {hds : List ExceptHandler} {l : List (Value × DS)} {pos : Pos} {tb : DXW → DS} (hs : X.stack = X.env :: X.outer) (hf : X.env.frame = some X.env.locals) (tk : L2N.Takes X W)
    (hb : ∀ (W : WX) (pn : List (Addr × Obj)) (xe : Value → Shared → Prop), L2N.Takes (X.tr pn xe) W → PassesOwn (model X.prog X.w) X.A X.env xe → QSsX (X.tr pn xe) W body tb) (hh : HdsD X (h₀ :: hds) l) :
    QSX X W (.Try body (h₀ :: hds) [] [] pos) (fun RX => dTry X.K tb l RX) := ps_mono (L2N.ps_try_many (tb := fun W => upSX X.K W tb) hs hf tk hb hh.ok) fun D τ H h => by
  obtain ⟨σ, G, N, E, RX, hs, hg, ht, q, qx⟩ := h
  exact ⟨σ, G, N, E, _, hs, hg, ht, q, hands_up q qx l⟩
theorem takes0N : L2N.Takes X (fun _ _ _ _ => False) := fun _ _ x => by
  obtain ⟨_, _, _, _, _, _, _, _, _, _, _, _, _, _, _, _, z⟩ := x
  exact z.elim
/-- a try out of which nothing is raised -/
theorem qs_try {body : List Stmt} {h₀ : ExceptHandler} {hds : List ExceptHandler} {l : List (Value × DS)} {pos : Pos} {tb : DXW → DS} (hs : X.stack = X.env :: X.outer) (hf : X.env.frame = some X.env.locals)
    (hb : ∀ (W : WX) (pn : List (Addr × Obj)) (xe : Value → Shared → Prop), L2N.Takes (X.tr pn xe) W → PassesOwn (model X.prog X.w) X.A X.env xe → QSsX (X.tr pn xe) W body tb) (hh : HdsD X (h₀ :: hds) l) :
    QS X (.Try body (h₀ :: hds) [] [] pos) (dTry X.K tb l fun _ _ _ _ => False) := ps_mono (sx_try hs hf takes0N hb hh) fun D τ H h => by
  obtain ⟨σ, G, N, E, hs, hg, ht, q⟩ := h
  exact ⟨σ, G, N, E, _, hs, hg, ht, q, fun _ _ _ _ _ _ _ _ z => z.elim⟩
end
/-! ### steps -/
section
variable {σ : Sd} {G : Gp} {R : DK} {RX : DXW} {E : DEnds} {ti : DI} {g : DG} {tt : DT} {tk te : DE} {tkX teX : DXW → DE} {tbX : DXW → DS} {ws : List Nat} {mk : Bool} {K : PySem.W.Frag} {l : List (Value × DS)} {cls : Value} {tr : DA} {sp : DSpX}
theorem x_lcX : dLcX mk ti g tt teX ws RX σ G R = dLc mk ti g tt (teX fun cls fs _ G' => RX cls fs σ G') ws σ G R := rfl
theorem x_dcX : dDcX ti g tt tkX teX ws RX σ G R = dDc ti g tt (tkX fun cls fs _ G' => RX cls fs σ G') (teX fun cls fs _ G' => RX cls fs σ G') ws σ G R := rfl
theorem x_dc : dDc ti g tt tk te ws σ G R = ti σ G fun xs gd G1 => xs.length ≤ sizeLine ∧ dDcGo g tt tk te gd (wipeD σ ws) xs [] G1 fun kvs G2 => ∀ p, G2 p = none → R (.ref p) (gup G2 p (.dK kvs)) := rfl
theorem x_dcgo1 {gd : Gp → Prop} {x : D} {xs : List D} {acc : List (Key × D)} {Q : List (Key × D) → Gp → Prop} : dDcGo g tt tk te gd σ (x :: xs) acc G Q = (gd G ∧ g x σ G fun σ2 G2 => tt σ2 G2 fun b G3 => br b (tk σ2 G3 fun y G4 => te σ2 G4 fun z G5 => ∃ k, y = kD k ∧ dDcGo g tt tk te gd σ xs (putKD acc k z) G5 Q) (dDcGo g tt tk te gd σ xs acc G3 Q)) := rfl
theorem x_raise : dRaise cls RX E σ G = ∃ G', Sub G' G ∧ RX cls [] σ G' := rfl
theorem x_try : dTry K tbX l RX E σ G = tbX (hands K E RX l) E σ G := rfl
theorem x_callX : dCallX sp RX tr σ G R = tr σ G fun ds G1 => sp ds G1 R (subX RX σ) := rfl
theorem subX_same {fs : List (Str × D)} (h : RX cls fs σ G) : subX RX σ cls fs G := ⟨G, Sub.refl G, h⟩
theorem hand_yes {c : Value} {ts : DS} {r : List (Value × DS)} {fs : List (Str × D)} (e : PySem.W.exmOne K cls c = some true) (h : ts E σ G) : hands K E RX ((c, ts) :: r) cls fs σ G := ⟨true, e, h⟩
end
end DL

set_option Elab.async false
set_option linter.all false
set_option maxRecDepth 100000
set_option maxHeartbeats 4000000
set_option autoImplicit false
namespace DL
open PySem PySem.Spec PyProof.Rows L2
theorem fnx_never {P : Program} {w : World} {K : PySem.W.Frag} {mg : Str → Option Value} {base : Heap} {k : Nat} {f : Addr} {fd : FuncData} {ps : List Str} : FnX P w K mg base k f fd ps (fun _ _ _ _ => False) :=
  ⟨fun vs H Q E h => by obtain ⟨_, _, _, _, _, _, _, h, _⟩ := h; exact h.elim, fun A outer s H args us vs Q E _ _ _ _ h => by obtain ⟨_, _, _, _, _, _, _, h, _⟩ := h; exact h.elim⟩
section
variable {X : Cx}
/-- d.get(k, x) of a dict that is kept -/
def dGetK2 (td ti tj : DE) : DE := fun σ G R => td σ G fun x G1 => ∃ a kvs, x = .ref a ∧ G1 a = some (.dK kvs) ∧ ti σ G1 fun y G2 => tj σ G2 fun w G3 => ∃ k, y = kD k ∧ G3 a = some (.dK kvs) ∧ R ((valD kvs k).getD w) G3
theorem qe_getK2 {o i j : Expr} {td ti tj : DE} {apos pos2 : Pos} (hu : X.A.units + 1 < cLine) (hd : QE X o td) (hi : QE X i ti) (hj : QE X j tj) (m : M2 X o "get" apos i j pos2) : QE X (.Call (.Attribute o "get" apos) [i, j] [] pos2) (dGetK2 td ti tj) :=
  pe_mono (pe_dget2 hu hd hi hj m) fun τ H Q z => by
    obtain ⟨σ, G, N, R, hs, hg, ht, q⟩ := z
    refine ⟨σ, G, N, _, hs, hg, ht, fun x G1 N1 v1 H1 h1 s1 r1 => ?_⟩
    obtain ⟨a, kvs, rfl, e1, h1⟩ := h1
    obtain rfl := r1.of_ref
    obtain ⟨_, kvs1, hH1, _⟩ := s1.rel a _ e1
    refine ⟨a, rfl, .inl ⟨_, .inl hH1⟩, σ, G1, N1, _, hs.le s1.kp, s1.rel, h1, fun y G2 N2 v H2 h2 s2 r2 => ?_⟩
    have s12 := s1.trans s2
    refine ⟨σ, G2, N2, _, hs.le s12.kp, s2.rel, h2, fun w G3 N3 u H3 h3 s3 r3 => ?_⟩
    obtain ⟨k, rfl, e3, hR⟩ := h3
    obtain rfl := of_kD r2
    obtain ⟨_, kvs3, hH3, rr⟩ := s3.rel a _ e3
    refine ⟨_, DGet.k hH3, ?_⟩
    cases e : valD kvs k with
    | some d =>
      obtain ⟨v, hv, rv⟩ := (val_rel rr).1 d e
      rw [hv]
      rw [e] at hR
      exact q d G3 N3 v H3 hR (s12.trans s3) rv
    | none =>
      rw [(val_rel rr).2 e]
      rw [e] at hR
      exact q _ G3 N3 _ H3 hR (s12.trans s3) r3
end
end DL

set_option Elab.async false
set_option linter.all false
set_option maxRecDepth 100000
set_option maxHeartbeats 4000000
set_option autoImplicit false
namespace DL
open PySem PySem.Spec PyProof.Rows L2
section
variable {X : Cx} {e : Expr} {t : DE} {σ : Sd} {G : Gp} {R : DK}
end
end DL

set_option Elab.async false
set_option linter.all false
set_option maxRecDepth 100000
set_option maxHeartbeats 4000000
set_option autoImplicit false
namespace DL
open PySem PySem.Spec PyProof.Rows L2
/-- what was pinned is told of from here on -/
theorem inv_told {X : Cx} {pins : List (Addr × Obj)} {σ : L2.St} {H : Hp} {s : Shared} {a : Addr} {o : HO} (I : Inv X pins σ H s) (na : H a = none) (n0 : X.s_0.heap.get? a = none) (nL : a ≠ X.env.locals) (nC : ∀ v, ¬ s.heap.IsCell a v) (nP : ∀ p ∈ X.pn ++ pins, p.1 ≠ a)
    (new : ObjOk X.prog X.w (upd H a o) s.heap a o) : Inv X pins σ (upd H a o) s where
  ok := I.ok
  os := I.os
  bare := I.bare
  base := ⟨I.base.keep, I.base.slot, fun b u e n x => by rw [upd_ne (fun z => by rw [z, n0] at e; cases e)]; exact I.base.free b u e n x, I.base.there,
    fun b xs e => by have q := I.base.tups b xs e; rw [upd_ne (ne_of_none q na)]; exact q, fun b u v e => by have q := I.base.frzs b u v e; rw [upd_ne (ne_of_none q na)]; exact q,
    fun b ps e => by obtain ⟨m, q⟩ := I.base.tbls b ps e; exact ⟨m, by rw [upd_ne (ne_of_none q na)]; exact q⟩⟩
  loc := I.loc
  cell := I.cell
  free := by rw [upd_ne (Ne.symm nL)]; exact I.free
  freeC := fun x c e => by
    obtain ⟨v, hc⟩ := I.cell x c e
    rw [upd_ne (fun z => by rw [z] at hc; exact nC v hc)]
    exact I.freeC x c e
  pin := fun p hp => by
    obtain ⟨h1, h2, h3⟩ := I.pin p hp
    exact ⟨h1, by rw [upd_ne (nP p hp)]; exact h2, h3⟩
  hok := I.hok.laidN (fun _ _ q => q) na new
  len := I.len
/-- a clause that keeps what it caught: except C as e: y = e -/
def wKeep (K : PySem.W.Frag) (c : Value) (i j : Nat) (D : Ends) : WX := fun cls d σ H =>
  PySem.W.exmOne K cls c = some true ∧ ∀ a, H a = none → D.nx (((σ.set i (some (.ref a))).set j (some (.ref a))).set i none) (upd H a (ExK cls d a))
section
variable {X : Cx} {x n y : Str} {c : Value} {i j : Nat} {body : List Stmt} {np pos pos' py pe pa : Pos} {tb : WX → TS}
theorem ps_tryKeep (hs : X.stack = X.env :: X.outer) (hf : X.env.frame = some X.env.locals) (hex : X.ex = []) (hN : X.N.Nodup) (hi : X.N[i]? = some n) (hln : X.env.kindOf n = some .local) (hj : X.N[j]? = some y) (hly : Loc X.env.scope y) (hc : Names X x c)
    (hb : ∀ (W : WX) (pn : List (Addr × Obj)) (xe : Value → Shared → Prop), L2N.Takes (X.tr pn xe) W → PassesOwn (model X.prog X.w) X.A X.env xe → PSs (X.tr pn xe) body (tb W))
    (hsu : ∀ (a : Addr) (pn : List (Addr × Obj)), PSs (X.suite a pn) [.Assign [.Name y py] (.Name n pe) pa] (tSeq (tAsg (tVar i) (gName j)) tNext)) :
    PS X (.Try body [.ExceptHandler (some (.Name x np)) (some n) [.Assign [.Name y py] (.Name n pe) pa] pos'] [] [] pos) (fun D σ H => tb (wKeep X.K c i j D) D σ H) := by
  refine ⟨fun pins s σ H D I h => wpAny_Try_except (wpAny_mono ((hb (wKeep X.K c i j D) (X.pn ++ pins) _ ?kept PassesOwn.looking).run [] s σ H D (I.toTry _) h) (fun f s1 hsp => ?_) (fun e s1 he => he))⟩
  case kept =>
    have ok := I.ok
    have hfr : X.A.frames = some (X.env :: X.outer) := by rw [ok.frames, hs]
    rintro u s' ⟨a, B, sI, pins', σ', H', cls, d, rfl, J', nb, up, sky, na, os, ag, hb1, hyes⟩
    have J : Inv X pins σ' H' sI := J'.ofTry ok
    refine L2N.Sky.land L2N.Zn.steady hfr hf (by rw [← hs]; exact sky) fun h3 fl3 up3 => ?_
    have J3 : Inv X pins σ' H' { s' with heap := h3 } := J.landed nb fl3.1 (up.trans up3) os ag
    obtain ⟨oe3, vs3, he3, hz3, hd3⟩ := fl3.there
    have nfr : a ∉ frs (X.env :: X.outer) := fun hm => by
      obtain ⟨_, o', e', hnf⟩ := fl3.2.2.1.mem hm
      rw [he3] at e'; cases e'
      exact hnf _ hd3
    have nL : a ≠ X.env.locals := fun z => nfr (List.mem_filterMap.mpr ⟨X.env, List.mem_cons_self, by rw [hf, z]⟩)
    have nF : a ∉ X.fs := fun hm => by
      obtain ⟨e, he, q⟩ := List.mem_filterMap.mp hm
      exact nfr (List.mem_filterMap.mpr ⟨e, List.mem_cons_of_mem _ he, q⟩)
    -- new since the try began
    have nI : sI.heap.get? a = none := by
      cases e : sI.heap.get? a with
      | none => rfl
      | some o => exact absurd fl3.2.1 (by rw [nb a o e (by rw [hs]; exact nfr)]; simp)
    have n0 : X.s_0.heap.get? a = none := by
      cases e : X.s_0.heap.get? a with
      | none => rfl
      | some o =>
        obtain ⟨o', e'⟩ := J.base.there a o e (by rw [hex]; exact fun z => nomatch z)
        rw [nI] at e'; cases e'
    have nP : ∀ p ∈ X.pn ++ pins, p.1 ≠ a := fun p hp z => by
      have := (J.pin p hp).1
      rw [z, nI] at this; cases this
    have S3 := J3.suite he3 hd3 na nL nF
    refine wpAny_handleBy_cons (codeAny_handlers_test ?_) (by intro q; cases q)
    have LM := PySem.W.exm_one (M := model X.prog X.w) (J3.kIn) (show PySem.W.Looks (model X.prog X.w) h3 (typeOf (.ref a)) cls from fun A Q E s k q => wpAny_typeOf_ref (k _ _ he3) (by rw [hz3.1]; exact q)) hb1
    have test : ∀ {Q : Value → Shared → Prop} {E : Value → Shared → Prop}, Q c { s' with heap := h3 } → wpAny (model X.prog X.w) (X.A.mark (some (.ref a))) (eval (.Name x np) X.env) Q E { s' with heap := h3 } := fun {Q E} q => by
      obtain ⟨hg, hdbg, hm | ⟨hm, hv, hnn⟩⟩ := hc
      · exact ld_glob (X := X.suite a ((a, oe3) :: (X.pn ++ pins))) S3 hg hm q hdbg
      · exact ld_blt (X := X.suite a ((a, oe3) :: (X.pn ++ pins))) S3 hg hm hv q hnn hdbg
    refine test (LM.here (codeAny_handlers_suite_as (HandSPX.lands_againZ fl3 fun h4 fl4 up4 => ?_)))
    have J4 : Inv X pins σ' H' { s' with heap := h4 } := J.landed nb fl4.1 ((up.trans up3).trans up4) os ag
    obtain ⟨oe4, vs4, he4, hz4, hd4⟩ := fl4.there
    have S4 := J4.suite he4 hd4 na nL nF
    refine store_ok (X := X.suite a ((a, oe4) :: (X.pn ++ pins))) (v := .ref a) S4 hN hi (.inl hln) rfl (fun s5 S5 => ?_) (.inr hln)
    have hil : i < σ'.length := by rw [J.len]; exact (List.getElem?_eq_some_iff.mp hi).1
    refine wpAny_mono ((hsu a ((a, oe4) :: (X.pn ++ pins))).run [] s5 _ H' { nx := fun σ6 H6 => σ6 = (σ'.set i (some (.ref a))).set j (some (.ref a)) ∧ H6 = H', rt := fun _ _ => False, bk := fun _ _ => False, ct := fun _ _ => False } S5 ?_) (fun f s6 hsp => ?_) (fun _ _ z => False.elim z)
    · refine ⟨.ref a, ?_, rfl, rfl⟩
      exact List.getElem?_set_self hil
    · cases f with
      | next =>
        obtain ⟨σ6, H6, S6, rfl, rfl⟩ := hsp
        obtain ⟨e6, _⟩ := S6.pin (a, oe4) (List.mem_append_left _ List.mem_cons_self)
        have J6 : Inv X pins _ _ s6 := inv_told (o := ExK cls d a) (S6.unsuite ok) na n0 nL (fun v ⟨o, h1, h2⟩ => by rw [e6] at h1; cases h1; rw [hd4] at h2; cases h2) nP (exK_ok e6 hz4.1 hz4.2.1 hd4)
        exact gone_ok J6 hN hi hln fun s7 J7 => ⟨_, _, J7, hyes a na⟩
      | brk => obtain ⟨_, _, _, z⟩ := hsp; exact z.elim
      | cont => obtain ⟨_, _, _, z⟩ := hsp; exact z.elim
      | ret u => obtain ⟨_, _, _, _, _, z⟩ := hsp; exact z.elim
  have ok := I.ok
  cases f with
  | next =>
    obtain ⟨σ', H', J', q⟩ := hsp
    exact wpAny_execs_nil ⟨σ', H', J'.ofTry ok, q⟩
  | brk =>
    obtain ⟨σ', H', J', q⟩ := hsp
    exact ⟨σ', H', J'.ofTry ok, q⟩
  | cont =>
    obtain ⟨σ', H', J', q⟩ := hsp
    exact ⟨σ', H', J'.ofTry ok, q⟩
  | ret u =>
    obtain ⟨v, σ', H', J', r, q⟩ := hsp
    exact ⟨v, σ', H', J'.ofTry ok, r, q⟩
end
/-! ### by data -/
theorem RSt.unset {K : PySem.W.Frag} {H : Hp} {N : Ns} {σ : Sd} {τ : L2.St} (h : RSt K H N σ τ) (i : Nat) : RSt K H N (σ.set i none) (τ.set i none) := by
  refine ⟨by rw [List.length_set, List.length_set]; exact h.1, fun j x e => ?_⟩
  by_cases hj : i = j
  · subst hj
    by_cases hl : i < σ.length
    · rw [List.getElem?_set_self hl] at e; cases e
    · rw [List.getElem?_eq_none (by rw [List.length_set]; omega)] at e; cases e
  · rw [List.getElem?_set_ne hj] at e ⊢
    exact h.2 j x e
/-- a clause that keeps what it caught -/
def keepX (K : PySem.W.Frag) (c : Value) (i j : Nat) (E : DEnds) : DXW := fun cls fs σ G => PySem.W.exmOne K cls c = some true ∧ ∀ a, G a = none → E.nx (((σ.set i (some (.ref a))).set j (some (.ref a))).set i none) (gup G a (.ex cls fs))
theorem keep_up {K : PySem.W.Frag} {H : Hp} {N : Ns} {G : Gp} {E : DEnds} {D : Ends} {c : Value} {i j : Nat} (q : UpE K H N G E D) : UpX K H N G (keepX K c i j E) (wKeep K c i j D) := fun cls fs σ' G' N' τ' H' d r s rs xd => by
  obtain ⟨e, h⟩ := r
  refine ⟨e, fun a na => ?_⟩
  have x1 : XdOf K H' N' d fs := by cases d with | none => exact xd | some p => exact ⟨xd.1, xd.2.2⟩
  have kp := Kp.new (N := N') (u := ExK cls d a) na
  exact q.nx _ _ _ _ _ (h a (s.rel.free na)) (s.trans (Stp.new s.rel na ⟨d, upd_same, x1.le kp⟩)) ((((rs.le kp).set (RD.ref a) i).set (RD.ref a) j).unset i)
def dTryK (K : PySem.W.Frag) (tb : DXW → DS) (c : Value) (i j : Nat) : DS := fun E σ G => tb (keepX K c i j E) E σ G
section
variable {X : Cx} {x n y : Str} {c : Value} {i j : Nat} {body : List Stmt} {np pos pos' py pe pa : Pos} {tb : DXW → DS}
/-- try: .., except C as e: y = e -/
theorem qs_tryKeep (hs : X.stack = X.env :: X.outer) (hf : X.env.frame = some X.env.locals) (hex : X.ex = []) (hN : X.N.Nodup) (hi : X.N[i]? = some n) (hln : X.env.kindOf n = some .local) (hj : X.N[j]? = some y) (hly : Loc X.env.scope y) (hc : Names X x c)
    (hb : ∀ (W : WX) (pn : List (Addr × Obj)) (xe : Value → Shared → Prop), L2N.Takes (X.tr pn xe) W → PassesOwn (model X.prog X.w) X.A X.env xe → QSsX (X.tr pn xe) W body tb)
    (hsu : ∀ (a : Addr) (pn : List (Addr × Obj)), PSs (X.suite a pn) [.Assign [.Name y py] (.Name n pe) pa] (tSeq (tAsg (tVar i) (gName j)) tNext)) :
    QS X (.Try body [.ExceptHandler (some (.Name x np)) (some n) [.Assign [.Name y py] (.Name n pe) pa] pos'] [] [] pos) (dTryK X.K tb c i j) := ps_mono (ps_tryKeep (tb := fun W => upSX X.K W tb) hs hf hex hN hi hln hj hly hc hb hsu) fun D τ H h => by
  obtain ⟨σ, G, N, E, hs, hg, ht, q⟩ := h
  exact ⟨σ, G, N, E, _, hs, hg, ht, q, keep_up q⟩
end
/-! ### isinstance of what was caught -/
/-- a class as a value -/
def valC : D → Option Value | .ty n => some (.type n) | .ref a => some (.ref a) | _ => none
def valCs : List D → Option (List Value)
  | [] => some []
  | d :: ds => match valC d, valCs ds with | some v, some vs => some (v :: vs) | _, _ => none
theorem valC_ok {K : PySem.W.Frag} {H : Hp} {N : Ns} {d : D} {v : V} {u cv : Value} (r : RD K H N d v) (ru : RelV v u) (h : valC d = some cv) : u = cv := by
  cases d with
  | ty n => cases h; rw [r.of_ty] at ru; exact ru
  | ref a => cases h; rw [show v = V.ref a from r] at ru; exact ru
  | _ => cases h
theorem valCs_ok {K : PySem.W.Frag} {H : Hp} {N : Ns} : ∀ {ds : List D} {vs : List V} {us cvs : List Value}, RDs K H N ds vs → Vals vs us → valCs ds = some cvs → us = cvs
  | [], _, _, _, r, ru, h => by
    rw [r.of_nil] at ru
    cases ru
    cases h
    rfl
  | d :: ds, _, _, _, r, ru, h => by
    obtain ⟨v, vs, rfl, r1, r2⟩ := r.of_cons
    cases ru with
    | cons a b =>
      simp only [valCs] at h
      split at h
      · rename_i e1 e2
        cases h
        rw [valC_ok r1 a e1, valCs_ok r2 b e2]
      · cases h
theorem kit_yes {K : PySem.W.Frag} {C x : Addr} (hd : PySem.W.hasDictIn K x = true) (ht : PySem.W.typeIn K (.ref x) = some (.type "type")) (hs : PySem.W.subIn K (.ref C) (.ref x) = some true) : PySem.W.kitOne K (.ref C) (.ref x) = some true := by
  obtain ⟨cd, hc, _⟩ := PySem.W.any_some hd
  unfold PySem.W.kitOne
  split
  · rfl
  · show (if ((PySem.W.clsIn K x).isSome && PySem.W.typeIn K (.ref x) == some (.type "type")) = true then PySem.W.subIn K (.ref C) (.ref x) else none) = _
    rw [if_pos (by rw [hc, ht] <;> rfl)]
    exact hs
theorem kit_no {K : PySem.W.Frag} {C x : Addr} (hd : PySem.W.hasDictIn K x = true) (ht : PySem.W.typeIn K (.ref x) = some (.type "type")) (hs : PySem.W.subIn K (.ref C) (.ref x) = some false) (self : PySem.W.subIn K (.ref C) (.ref C) = some true) : PySem.W.kitOne K (.ref C) (.ref x) = some false := by
  obtain ⟨cd, hc, _⟩ := PySem.W.any_some hd
  unfold PySem.W.kitOne
  split
  · rename_i e
    have : C = x := Value.ref.inj (beq_iff_eq.mp e)
    subst this
    rw [self] at hs
    cases hs
  · show (if ((PySem.W.clsIn K x).isSome && PySem.W.typeIn K (.ref x) == some (.type "type")) = true then PySem.W.subIn K (.ref C) (.ref x) else none) = _
    rw [if_pos (by rw [hc, ht] <;> rfl)]
    exact hs
theorem kit_tyB {K : PySem.W.Frag} {C : Addr} {T : String} {b : Bool} (hm : PySem.W.kitMeta T = true) (hs : PySem.W.subIn K (.ref C) (.type T) = some b) : PySem.W.kitOne K (.ref C) (.type T) = some b := by
  unfold PySem.W.kitOne
  rw [if_neg (fun e => by cases beq_iff_eq.mp e)]
  show (if PySem.W.kitMeta T = true then PySem.W.subIn K (.ref C) (.type T) else none) = _
  rw [if_pos hm]
  exact hs
def dIsiE (K : PySem.W.Frag) : DRn := fun ds G R => match ds with
  | [.ref a, c] => (match G a with
    | some (.ex (.ref D) []) => ExcC K D ∧ ((∃ cv b, valC c = some cv ∧ PySem.W.kitOne K (.ref D) cv = some b ∧ R (.bl b) G) ∨ ∃ cs cvs b, c = .tup cs ∧ valCs cs = some cvs ∧ PySem.W.kitAny K (.ref D) cvs = some b ∧ R (.bl b) G)
    | _ => dIsiX [.ref a, c] G R)
  | _ => dIsiX ds G R
theorem cd_isiE {X : Cx} : CallD X (.builtin "isinstance") (dIsiE X.K) := by
  intro pins s σ H xs us Q I r h
  obtain ⟨cs, G, N, R, rd, rg, h, q⟩ := h
  unfold dIsiE at h
  split at h
  · rename_i a c
    split at h
    · rename_i D eG
      obtain ⟨C, h⟩ := h
      obtain ⟨v, r', rfl, r1, r2⟩ := rd.of_cons
      obtain ⟨v', r'', rfl, r3, r4⟩ := r2.of_cons
      obtain rfl := r4.of_nil
      obtain ⟨u1, u2, rfl, ru1, ru2⟩ := vals2 r
      cases (show v = V.ref a from r1)
      cases (show u1 = Value.ref a from ru1)
      obtain ⟨_, d, hH, xd⟩ := rg a _ eG
      have hd : d = none := by cases d with | none => rfl | some p => exact absurd rfl xd.1
      subst hd
      obtain ⟨⟨oe, vs, hg, hc, hdn, hf⟩, _⟩ := I.hok a _ hH
      have J : PySem.W.InstAt s.heap a oe D none := by
        obtain ⟨oc, od, oda, osl⟩ := oe
        dsimp only at hc hdn hf
        subst hc hdn hf
        exact ⟨hg, rfl, rfl, trivial⟩
      have Z := PySem.W.handS_kitx_exc (x := a) (ox := oe) C.hg C.hk C.hs C.hd C.ha C.hn C.ht C.hm
      rcases h with ⟨cv, b, ec, ek, h⟩ | ⟨cs, cvs, b, rfl, ec, ek, h⟩
      · have := valC_ok r3 ru2 ec
        subst this
        exact PySem.W.kia_one Z I.kIn J ek (fun z => nomatch z) fun tk => ⟨.bl b, H, I.tok tk, rfl, q.at rg h (RD.bl _)⟩
      · obtain ⟨tp, vs2, rfl, sq, rvs⟩ := r3.of_tup
        cases (show u2 = Value.ref tp from ru2)
        obtain ⟨its, rv, ⟨o, h1, h2, k, h3⟩, _⟩ := I.tuple sq
        have e3 := valCs_ok rvs rv ec
        subst e3
        obtain ⟨oc, od, dt, sl⟩ := o
        simp only at h2 h3
        subst h2 h3
        exact PySem.W.kia_tup Z I.kIn J h1 ek (fun z => nomatch z) fun tk => ⟨.bl b, H, I.tok tk, rfl, q.at rg h (RD.bl _)⟩
    · exact cd_isiX pins s σ H xs us Q I r ⟨_, G, N, R, rd, rg, h, q⟩
  · exact cd_isiX pins s σ H xs us Q I r ⟨_, G, N, R, rd, rg, h, q⟩
/-! ### steps -/
section
variable {K : PySem.W.Frag} {G : Gp} {R : DK} {RX : DXW} {E : DEnds} {σ : Sd} {tb : DXW → DS} {c : Value} {i j : Nat} {a Dc : Addr} {cls : Value}
theorem x_tryK : dTryK K tb c i j E σ G = tb (keepX K c i j E) E σ G := rfl
theorem keep_go {fs : List (Str × D)} (e : PySem.W.exmOne K cls c = some true) (h : ∀ a, G a = none → E.nx (((σ.set i (some (.ref a))).set j (some (.ref a))).set i none) (gup G a (.ex cls fs))) : keepX K c i j E cls fs σ G := ⟨e, h⟩
theorem isE_one {d : D} {cv : Value} {b : Bool} (eG : G a = some (.ex (.ref Dc) [])) (C : ExcC K Dc) (ec : valC d = some cv) (ek : PySem.W.kitOne K (.ref Dc) cv = some b) (h : R (.bl b) G) : dIsiE K [.ref a, d] G R := by
  unfold dIsiE; dsimp only; rw [eG]; exact ⟨C, .inl ⟨cv, b, ec, ek, h⟩⟩
end
end DL

set_option Elab.async false
set_option linter.all false
set_option maxRecDepth 100000
set_option maxHeartbeats 4000000
set_option autoImplicit false
namespace DL
open PySem PySem.Spec PyProof.Rows L2
/-! ### f(k = v, ..) of a def that may raise -/
section
variable {X : Cx} {W : WX} {k : Nat} {f : Addr} {fd : FuncData} {ps ks : List Str} {sp : DSpX} {x : Str} {p pos : Pos} {kws : List Keyword} {tk : DA}
end
end DL

set_option Elab.async false
set_option linter.all false
set_option maxRecDepth 100000
set_option maxHeartbeats 4000000
set_option autoImplicit false
namespace DL
open PySem PySem.Spec PyProof.Rows L2
/-! ### range(i, j) -/
section
variable {X : Cx}
end
end DL

set_option Elab.async false
set_option linter.all false
set_option maxRecDepth 100000
set_option maxHeartbeats 4000000
set_option autoImplicit false
namespace DL
open PySem PySem.Spec PyProof.Rows L2
/-! ### f(a, .., k = v, ..) -/
section
variable {X : Cx} {k : Nat} {f : Addr} {fd : FuncData} {ps ks : List Str} {sp : DSp} {x : Str} {p pos : Pos} {e : Expr} {es : List Expr} {kws : List Keyword} {ta tk : DA}
theorem RDs.app {K : PySem.W.Frag} {H : Hp} {N : Ns} : ∀ {ds es : List D} {vs ws : List V}, RDs K H N ds vs → RDs K H N es ws → RDs K H N (ds ++ es) (vs ++ ws)
  | [], _, _, _, h, h2 => by rw [h.of_nil]; exact h2
  | d :: ds, es, _, ws, h, h2 => by
    obtain ⟨v, vs, rfl, r1, r2⟩ := h.of_cons
    exact RDs.cons r1 (RDs.app r2 h2)
end
/-! ### a list that is known, lent: what is known besides stays so where no list stands in it -/
section
variable {X : Cx} {k : Nat} {f : Addr} {fd : FuncData} {ps : List Str} {sp : DSp} {x : Str} {p pos : Pos} {e : Expr} {es : List Expr} {t : DA}
end
/-! ### != of lists in which known lists stand -/
end DL

set_option Elab.async false
set_option linter.all false
set_option maxRecDepth 100000
set_option maxHeartbeats 4000000
set_option autoImplicit false
namespace DL
open PySem PySem.Spec PyProof.Rows L2
/-! ### sorted of a dict whose keys are alike -/
section
variable {X : Cx} {k : Nat}
end
/-! ### range(i, j, -1) -/
section
variable {X : Cx}
end
end DL

set_option Elab.async false
set_option linter.all false
set_option maxRecDepth 100000
set_option maxHeartbeats 4000000
set_option autoImplicit false
namespace DL
open PySem PySem.Spec PyProof.Rows L2
/-! ### list(zip(xs, ys)) of two lists -/
section
variable {X : Cx} {pins : List (Addr × Obj)} {σ : L2.St} {H : Hp}
variable {a b : Expr} {p p2 pos pos2 : Pos}
end
end DL

set_option Elab.async false
set_option linter.all false
set_option maxRecDepth 100000
set_option maxHeartbeats 4000000
set_option autoImplicit false
namespace DL
open PySem PySem.Spec PyProof.Rows L2
/-! ### len of a dict whose keys are tuples, or of any dict told by its entries -/
section
variable {X : Cx}
end
end DL

set_option Elab.async false
set_option linter.all false
set_option maxRecDepth 100000
set_option maxHeartbeats 4000000
set_option autoImplicit false
namespace DL
open PySem PySem.Spec PyProof.Rows L2
/-! ### tuple * int, by 0 and 1 too -/
theorem tuple_one (l : Addr) (items : Array Value) (n : Nat) (dd : Option Addr) (sl : Array (Option Value)) (u : Tok) :
    Meets (Builtin.«tuple.__mul__» ⟨[.ref l, .int 1 u], []⟩) (fun _ R s => s.heap.get? l = some { cls := .type "tuple", dict := dd, data := .seq items n, slots := sl } ∧ R (.ok (.ret (Value.ref l))) s) :=
  .of_wp fun prog w A R s h => by
    obtain ⟨hp, g, d, tk, os⟩ := s
    obtain ⟨hl, h⟩ := h
    have f1 := AutoSeq1.idx_int
    wp_walk using wpAny_loadPart' hl
    repeat (first
      | (refine wpAny_ite_false (by decide) ?_; wp_walk using wpAny_loadPart' hl)
      | (refine wpAny_ite_true (by simp) ?_; wp_walk using wpAny_loadPart' hl))
    exact ⟨_, rfl, h⟩
theorem tuple_zero (l : Addr) (items : Array Value) (n : Nat) (dd : Option Addr) (sl : Array (Option Value)) (x : Int) (u : Tok) (c0 : (decide (x < -(2 ^ 63)) || decide (x ≥ 2 ^ 63)) = false) (c1 : (items.isEmpty || x == 1) = false) (hx : x ≤ 0) :
    Meets (Builtin.«tuple.__mul__» ⟨[.ref l, .int x u], []⟩) (fun _ R s => s.heap.get? l = some { cls := .type "tuple", dict := dd, data := .seq items n, slots := sl } ∧
      R (.ok (.ret (Value.ref s.heap.objs.size))) { s with heap := s.heap.push { cls := Value.type "tuple", data := Data.seq #[] }, toks := s.toks }) :=
  .of_wp fun prog w A R s h => by
    obtain ⟨hp, g, d, tk, os⟩ := s
    obtain ⟨hl, h⟩ := h
    have f1 := AutoSeq1.idx_int
    wp_walk using wpAny_loadPart' hl
    repeat (first
      | (refine wpAny_ite_false (decide_eq_false (by rw [c0]; exact Bool.false_ne_true)) ?_; wp_walk using wpAny_loadPart' hl)
      | (refine wpAny_ite_false (decide_eq_false (by rw [c1]; exact Bool.false_ne_true)) ?_; wp_walk using wpAny_loadPart' hl)
      | (refine wpAny_ite_true (by simp [hx]) ?_; wp_walk using wpAny_loadPart' hl))
    exact ⟨_, rfl, h⟩
section
variable {X : Cx}
def rRepA (K : PySem.W.Frag) : R2 := fun x y H Q => ∃ l k xs, x = .ref l ∧ y = .int k ∧ SqT K H l xs ∧ xs ≠ [] ∧ -1000 ≤ k ∧ k ≤ 1000 ∧ xs.length ≤ 1000 ∧ (k = 1 → Q (.ref l) H) ∧ (k ≠ 1 → ∀ p, H p = none → Q (.ref p) (upd H p (.tup (List.replicate k.toNat xs).flatten)))
theorem op_repA : OpR X (binaryOp .Mult) (rRepA X.K) := by
  intro pins s σ H x y v u Q I rx ry h
  obtain ⟨l, k, xs, rfl, rfl, hT, hne, h1, h2, hz, q1, q2⟩ := h
  rcases (show 2 ≤ k ∨ k = 1 ∨ k ≤ 0 by omega) with hk | hk | hk
  · exact op_repT pins s σ H _ _ v u Q I rx ry ⟨l, k, xs, rfl, rfl, hT, hne, hk, h2, hz, q2 (by omega)⟩
  all_goals
    cases rx
    obtain ⟨t, rfl⟩ := ry
    obtain ⟨its, r, ⟨⟨cls, dd, data, sl⟩, ho, hc, n, hd⟩, hs⟩ := I.tuple hT
    simp only at hc hd
    subst hc hd
  · subst hk
    refine wpAny_binaryOp_repeat_ref (T := "tuple") (U := "int") (by decide) ⟨_, ho, rfl⟩ (fun s' => typeIs_int s' 1 t) noFill_tuple_mul F.fills_int_mul F.slot_int_rmul repeat_tuple F.slot_int_index.lookup
      (call_meets F.slot_int_rmul (typeIs_int s 1 t) F.entry_int_rmul (F.args_int_rmul_2 _ _) (int_rmul_tuple 1 t l its.toArray n dd sl)
        ⟨ho, rfl, ⟨_, ho, rfl⟩, call_meets F.slot_tuple_mul ⟨_, ho, rfl⟩ F.entry_tuple_mul (F.args_tuple_mul_2 _ _) (tuple_one l its.toArray n dd sl t) ⟨ho, ?_⟩⟩)
    exact ⟨.ref l, H, I, rfl, q1 rfl⟩
  · have hle : its.length = xs.length := r.length.symm
    have hn : its ≠ [] := fun e => hne (by
      rw [e] at hle
      exact List.eq_nil_of_length_eq_zero hle.symm)
    have hi : its.toArray.isEmpty = false := by
      cases its with
      | nil => exact absurd rfl hn
      | cons a b => rfl
    have c0 : (decide (k < -(2 ^ 63)) || decide (k ≥ 2 ^ 63)) = false := by
      rw [decide_eq_false (by omega), decide_eq_false (by omega)] <;> rfl
    have c1 : (its.toArray.isEmpty || k == 1) = false := by
      rw [hi, Bool.false_or]
      exact beq_eq_false_iff_ne.mpr (by omega)
    refine wpAny_binaryOp_repeat_ref (T := "tuple") (U := "int") (by decide) ⟨_, ho, rfl⟩ (fun s' => typeIs_int s' k t) noFill_tuple_mul F.fills_int_mul F.slot_int_rmul repeat_tuple F.slot_int_index.lookup
      (call_meets F.slot_int_rmul (typeIs_int s k t) F.entry_int_rmul (F.args_int_rmul_2 _ _) (int_rmul_tuple k t l its.toArray n dd sl)
        ⟨ho, rfl, ⟨_, ho, rfl⟩, call_meets F.slot_tuple_mul ⟨_, ho, rfl⟩ F.entry_tuple_mul (F.args_tuple_mul_2 _ _) (tuple_zero l its.toArray n dd sl k t c0 c1 hk) ⟨ho, ?_⟩⟩)
    have e0 : k.toNat = 0 := by omega
    refine ⟨.ref s.heap.objs.size, _, I.laid (t' := s.toks) (o := .tup (List.replicate k.toNat xs).flatten) (fun b ob q => Heap.get?_push_of_some _ q) (Nat.le_refl _) ?_, rfl, q2 (by omega) _ (I.hok.fresh (Nat.le_refl _))⟩
    rw [e0]
    exact ⟨Nat.zero_le _, [], .nil, IsTup.new _ _⟩
/-- (..) * k -/
def dRepT : DR2 := fun x y G R => match x, y with
  | .tup ds, .int k => ds ≠ [] ∧ -1000 ≤ k ∧ k ≤ 1000 ∧ ds.length ≤ 1000 ∧ R (.tup (List.replicate k.toNat ds).flatten) G
  | _, _ => False
theorem od_repT : OpD X (binaryOp .Mult) dRepT := opr_mono op_repA fun x y H Q h => by
  obtain ⟨c, d, G, N, R, r1, r2, rg, h, q⟩ := h
  unfold dRepT at h
  split at h
  · rename_i ds k
    obtain ⟨hne, h1, h2, h3, h⟩ := h
    obtain ⟨p, vs, rfl, sq, rd⟩ := r1.of_tup
    obtain rfl := r2.of_int
    have hl := rd.length
    refine ⟨p, k, vs, rfl, rfl, sq, fun e => hne (by rw [e] at hl; exact List.eq_nil_of_length_eq_zero hl), h1, h2, by omega, fun hk => ?_, fun hk pp np => ?_⟩
    · subst hk
      rw [show (List.replicate (Int.toNat 1) ds).flatten = ds by simp] at h
      exact q.at rg h r1
    · exact newT_ok rg (rd.rep k.toNat) h q np
  · exact h.elim
end
end DL

set_option Elab.async false
set_option linter.all false
set_option maxRecDepth 100000
set_option maxHeartbeats 4000000
set_option autoImplicit false
namespace DL
open PySem PySem.Spec PyProof.Rows L2
/-! ### [elt for x in xs for y in ys] -/
abbrev DIS := Sd → Gp → (List D → Gp → Prop) → Prop
/-- J yields the things xs from wherever all that stood is kept -/
def YlS (K : PySem.W.Frag) (J : It) (H0 : Hp) (N0 : Ns) (xs : List D) : Prop := ∀ H N G, Kp H0 N0 H N → RelG K H N G → Yl K J H N G xs fun _ => True
def upIS (K : PySem.W.Frag) (ti : DIS) : TI := fun τ H R => ∃ σ G N R', RSt K H N σ τ ∧ RelG K H N G ∧ ti σ G R' ∧ ∀ xs G' N' J H', R' xs G' → Stp K H N G H' N' G' → YlS K J H' N' xs → R J H'
def QIS (X : Cx) (tg iter : Expr) (ti : DIS) : Prop := PI X tg iter (upIS X.K ti)
section
variable {X : Cx}
def dRng1S (ta : DA) : DIS := fun σ G R => ta σ G fun ds G1 => match ds with | [.int j] => -(2 ^ 62) ≤ j ∧ j < 2 ^ 62 ∧ R (rng 0 j.toNat) G1 | _ => False
theorem qis_range1 {tg a : Expr} {ta : DA} {p pos : Pos} (hg : Gl X "range") (hm : X.mg "range" = none) (ha : QA X [a] ta) (hs : starEach [a] X.env = [(false, eval a X.env)] := by rfl) : QIS X tg (.Call (.Name "range" p) [a] [] pos) (dRng1S ta) := pi_mono (pi_range1 hg hm ha hs) fun τ H Q h => by
  obtain ⟨σ, G, N, R, hs, hg, ht, q⟩ := h
  refine ⟨σ, G, N, _, hs, hg, ht, fun ds G1 N1 vs H1 h1 s1 r1 => ?_⟩
  split at h1
  · rename_i j
    obtain ⟨v, r, rfl, r2, r3⟩ := r1.of_cons
    rw [r3.of_nil, r2.of_int]
    exact ⟨j, rfl, h1.1, h1.2.1, q _ _ _ _ _ h1.2.2 s1 fun H N G k rg => yl_rng⟩
  · exact h1.elim
end
def dLc2Go (g : DG) (tt : DT) (ti1 : DIS) (g1 : DG) (tt1 : DT) (te : DE) (vs1 : List Nat) (gd : Gp → Prop) (σ : Sd) : List D → List D → Gp → (List D → Gp → Prop) → Prop
  | [], acc, G, Q => gd G ∧ Q acc G
  | x :: xs, acc, G, Q => gd G ∧ g x σ G fun σ2 G2 => tt σ2 G2 fun b G3 => match b with
    | true => ti1 σ2 G3 fun xs1 G4 => acc.length + xs1.length ≤ sizeLine ∧ dLcGo g1 tt1 te (fun _ => True) (wipeD σ2 vs1) xs1 acc G4 fun acc' G5 => dLc2Go g tt ti1 g1 tt1 te vs1 gd σ xs acc' G5 Q
    | false => dLc2Go g tt ti1 g1 tt1 te vs1 gd σ xs acc G3 Q
def dLc2 (mk : Bool) (ti : DI) (g : DG) (tt : DT) (ti1 : DIS) (g1 : DG) (tt1 : DT) (te : DE) (ws vs1 : List Nat) : DE := fun σ G R => ti σ G fun xs gd G1 => dLc2Go g tt ti1 g1 tt1 te vs1 gd (wipeD σ ws) xs [] G1 fun ds G2 => newL mk ds G2 R
theorem wipe_in (τ : L2.St) : ∀ (us vs : List Nat), (∀ v ∈ us, v ∈ vs) → L2.wipe (L2.wipe τ vs) us = L2.wipe τ vs := by
  intro us
  induction us with
  | nil => intro vs _; rfl
  | cons u us ih =>
    intro vs hv
    show (L2.wipe (L2.wipe τ vs) us).set u none = _
    rw [ih vs (fun v hv' => hv v (List.mem_cons_of_mem _ hv'))]
    have hm := hv u List.mem_cons_self
    apply List.ext_getElem?
    intro j
    by_cases hj : u = j
    · subst hj
      rw [List.getElem?_set]
      simp only [if_true]
      have hn : ∀ x, (L2.wipe τ vs)[u]? ≠ some (some x) := fun x e => (wipe_some e).2 hm
      split
      · rename_i hlt'
        rw [List.getElem?_eq_getElem hlt'] at hn ⊢
        cases e : (L2.wipe τ vs)[u] with
        | none => rfl
        | some z => exact absurd (by rw [e]) (hn z)
      · rename_i hge
        rw [List.getElem?_eq_none (by omega)]
    · rw [List.getElem?_set_ne hj]
theorem up_lc2 {K : PySem.W.Frag} {mk : Bool} {ti : DI} {vg vg1 : TG} {g g1 : DG} {tt tt1 : DT} {ti1 : DIS} {te : DE} {ws vs1 : List Nat} (tgo : TgOk K vg g ws) (tgo1 : TgOk K vg1 g1 vs1) {τ : L2.St} {H : Hp} {Q : VK} (h : up K (dLc2 mk ti g tt ti1 g1 tt1 te ws vs1) τ H Q) : tLc2 (upI K ti) vg (upT K tt) (upIS K ti1) vg1 (upT K tt1) (up K te) ws vs1 τ H Q := by
  obtain ⟨σ, G, N, R, hs, hg, ht, q⟩ := h
  refine ⟨σ, G, N, _, hs, hg, ht, fun xs gd G1 N1 J H1 h1 s1 y => ?_⟩
  intro p np
  have q1 := q.le s1
  let Q' : List D → Gp → Prop := fun ds G2 => newL mk ds G2 R
  refine ⟨fun i m H' => m = xs.length - i ∧ i ≤ xs.length ∧ ∃ acc vacc G' N', H' p = some (.lst vacc) ∧ RDs K H' N' acc vacc ∧ acc.length ≤ sizeLine ∧ G' p = none ∧ N' p ∧ Stp K H1 N1 G1 H' N' G' ∧ dLc2Go g tt ti1 g1 tt1 te vs1 gd (wipeD σ ws) (xs.drop i) acc G' Q',
    ⟨xs.length, rfl, Nat.zero_le _, [], [], G1, nadd N1 p, upd_same, RDs.nil, Nat.zero_le _, s1.rel.free np, .inl rfl, ?_, h1⟩, ?_⟩
  · refine ⟨Kp.new np, fun q x e n => ⟨by rw [upd_ne (ne_of_none e np)]; exact e, n, .inr⟩, fun a o' e => ?_⟩
    obtain ⟨x, hx, _⟩ := (s1.rel a o' e).2.here
    exact ⟨.inr (s1.rel a o' e).1, (s1.rel a o' e).2.le (Kp.new np) (upd_ne (ne_of_none hx np))⟩
  rintro i m H2 ⟨rfl, hi, acc, vacc, G2, N2, hp2, ra2, hal, gp2, nn2, s2, h2⟩
  by_cases hlt : i < xs.length
  · rw [List.drop_eq_getElem_cons hlt] at h2
    obtain ⟨hgd, h2⟩ := h2
    obtain ⟨go, yld⟩ := y.go i H2 N2 G2 xs[i] s2 hgd (List.getElem?_eq_getElem hlt)
    refine .inr ⟨go, fun H' => ∃ acc vacc G' N', H' p = some (.lst vacc) ∧ RDs K H' N' acc vacc ∧ acc.length ≤ sizeLine ∧ G' p = none ∧ N' p ∧ Stp K H1 N1 G1 H' N' G' ∧ dLc2Go g tt ti1 g1 tt1 te vs1 gd (wipeD σ ws) (xs.drop (i + 1)) acc G' Q', fun H' z => ⟨xs.length - (i + 1), by omega, rfl, hlt, z⟩, fun x H3 hy => ?_⟩
    obtain ⟨s3, r3⟩ := yld x H3 hy
    have rw3 : RSt K H3 N2 (wipeD σ ws) (L2.wipe τ ws) := (((hs.le s1.kp).le s2.kp).le s3.kp).wipe ws
    refine tgo xs[i] x (wipeD σ ws) (L2.wipe τ ws) H3 N2 G2 _ _ r3 rw3 s3.rel h2 fun σ4 τ4 h4 r4 w4 => ⟨?_, ?_⟩
    · rw [w4]
      exact wipe_in τ ws ws fun v h => h
    · refine ⟨σ4, G2, N2, _, r4, s3.rel, h4, fun b G5 N5 H5 h5 s5 => ?_⟩
      obtain ⟨hp3, gp3, _⟩ := s3.fr p _ hp2 gp2
      obtain ⟨hp5, gp5, nn5⟩ := s5.fr p _ hp3 gp3
      have s25 := (s2.trans s3).trans s5
      cases b with
      | false =>
        rw [if_neg Bool.false_ne_true]
        exact ⟨acc, vacc, G5, N5, hp5, (ra2.le s3.kp).le s5.kp, hal, gp5, nn5 nn2, s25, h5⟩
      | true =>
        rw [if_pos rfl]
        have r45 := r4.le s5.kp
        refine ⟨σ4, G5, N5, _, r45, s5.rel, h5, fun xs1 G6 N6 J1 H6 h6 s6 y1 => ?_⟩
        obtain ⟨hl6, h6⟩ := h6
        obtain ⟨hp6, gp6, nn6⟩ := s6.fr p _ hp5 gp5
        have s26 := s25.trans s6
        have ra6 := ((ra2.le s3.kp).le s5.kp).le s6.kp
        have r46 := r45.le s6.kp
        refine ⟨fun j k H' => k = xs1.length - j ∧ j ≤ xs1.length ∧ ∃ acc' vacc' G' N', H' p = some (.lst vacc') ∧ RDs K H' N' acc' vacc' ∧ acc'.length ≤ acc.length + j ∧ G' p = none ∧ N' p ∧ Kp H6 N6 H' N' ∧ Stp K H1 N1 G1 H' N' G' ∧ dLcGo g1 tt1 te (fun _ => True) (wipeD σ4 vs1) (xs1.drop j) acc' G' (fun acc' G5 => dLc2Go g tt ti1 g1 tt1 te vs1 gd (wipeD σ ws) (xs.drop (i + 1)) acc' G5 Q'),
          ⟨xs1.length, rfl, Nat.zero_le _, acc, vacc, G6, N6, hp6, ra6, Nat.le_refl _, gp6, nn6 (nn5 nn2), Kp.refl _ _, s26, h6⟩, ?_⟩
        rintro j k H7 ⟨rfl, hj, acc', vacc', G7, N7, hp7, ra7, hal7, gp7, nn7, k7, s7, h7⟩
        have y7 := y1 H7 N7 G7 k7 s7.rel
        by_cases hlt1 : j < xs1.length
        · rw [List.drop_eq_getElem_cons hlt1] at h7
          obtain ⟨_, h7⟩ := h7
          obtain ⟨go1, yld1⟩ := y7.go j H7 N7 G7 xs1[j] (Stp.refl s7.rel) trivial (List.getElem?_eq_getElem hlt1)
          refine .inr ⟨go1, fun H' => ∃ acc' vacc' G' N', H' p = some (.lst vacc') ∧ RDs K H' N' acc' vacc' ∧ acc'.length ≤ acc.length + (j + 1) ∧ G' p = none ∧ N' p ∧ Kp H6 N6 H' N' ∧ Stp K H1 N1 G1 H' N' G' ∧ dLcGo g1 tt1 te (fun _ => True) (wipeD σ4 vs1) (xs1.drop (j + 1)) acc' G' (fun acc' G5 => dLc2Go g tt ti1 g1 tt1 te vs1 gd (wipeD σ ws) (xs.drop (i + 1)) acc' G5 Q'), fun H' z => ⟨xs1.length - (j + 1), by omega, rfl, hlt1, z⟩, fun x1 H8 hy1 => ?_⟩
          obtain ⟨s8, r8⟩ := yld1 x1 H8 hy1
          have rw8 : RSt K H8 N7 (wipeD σ4 vs1) (L2.wipe τ4 vs1) := ((r46.le k7).le s8.kp).wipe vs1
          refine tgo1 xs1[j] x1 (wipeD σ4 vs1) (L2.wipe τ4 vs1) H8 N7 G7 _ _ r8 rw8 s8.rel h7 fun σ9 τ9 h9 r9 w9 => ⟨?_, ?_⟩
          · rw [w9]
            exact wipe_in τ4 vs1 vs1 fun v h => h
          · refine ⟨σ9, G7, N7, _, r9, s8.rel, h9, fun b G10 N10 H10 h10 s10 => ?_⟩
            obtain ⟨hp8, gp8, _⟩ := s8.fr p _ hp7 gp7
            obtain ⟨hp10, gp10, nn10⟩ := s10.fr p _ hp8 gp8
            have s710 := s8.trans s10
            have s110 := s7.trans s710
            have k10 := k7.trans s710.kp
            cases b with
            | false =>
              rw [if_neg Bool.false_ne_true]
              exact ⟨acc', vacc', G10, N10, hp10, ra7.le s710.kp, by omega, gp10, nn10 nn7, k10, s110, h10⟩
            | true =>
              rw [if_pos rfl]
              refine ⟨σ9, G10, N10, _, r9.le s10.kp, s10.rel, h10, fun d G11 N11 v11 H11 h11 s11 r11 => ?_⟩
              obtain ⟨hp11, gp11, nn11⟩ := s11.fr p _ hp10 gp10
              have s111 := s110.trans s11
              have ra11 := (ra7.le s710.kp).le s11.kp
              have kw := Kp.write (u := .lst (vacc' ++ [v11])) (nn11 (nn10 nn7)) hp11 rfl rfl
              have hl11 := ra11.length
              refine ⟨vacc', hp11, by omega, acc' ++ [d], vacc' ++ [v11], G11, N11, upd_same, (RDs.append ra11 (RDs.cons r11 RDs.nil)).le kw, by simp; omega, gp11, nn11 (nn10 nn7), (k10.trans s11.kp).trans kw, s111.poke np hp11 gp11 (nn11 (nn10 nn7)) rfl rfl, h11⟩
        · have e : j = xs1.length := by omega
          subst e
          rw [List.drop_length] at h7
          exact .inl ⟨y7.stop _ H7 N7 G7 (Stp.refl s7.rel) trivial rfl, acc', vacc', G7, N7, hp7, ra7, by omega, gp7, nn7, s7, h7.2⟩
  · have e : i = xs.length := by omega
    subst e
    rw [List.drop_length] at h2
    refine .inl ⟨y.stop _ H2 N2 G2 s2 h2.1 rfl, ?_⟩
    have h3 : newL mk acc G2 R := h2.2
    cases mk with
    | true =>
      refine q1 (.ref p) (gup G2 p (.lst acc)) N2 _ _ (h3 p gp2) (s2.know np nn2 ⟨vacc, hp2, ra2⟩) (RD.ref p)
    | false =>
      exact q1 (.lst acc) G2 (ndel N2 p) _ _ h3 (s2.calm (.inl np) gp2) (RD.lst (.inl ⟨hp2, fun z => z.1 rfl⟩) (ra2.le Kp.calm))
section
variable {X : Cx}
theorem qs_setLc2 (mk : Bool) {i : Nat} {y : Str} {py : Pos} {elt tg iter tg1 iter1 : Expr} {ifs ifs1 : List Expr} {scope : Scope} {own : List (Str × Nat)} {vs1 : List Nat} {pos spos : Pos} {ti : DI} {ti1 : DIS} {vg vg1 : TG} {g g1 : DG} {tt tt1 : DT} {te : DE} (hc : X.calm = true) (hN : X.N.Nodup) (hy : X.N[i]? = some y) (hyl : X.env.scope.names.lookup y = some .local)
    (hsw : swapsWith (.ListComp elt [⟨tg, iter, ifs, 0⟩, ⟨tg1, iter1, ifs1, 0⟩] scope pos) (some (.Name y py)) spos.line X.env = pure true) (hi : QI X tg iter ti) (ok : BlkOk X.N X.env.scope scope own) (hv : ∀ i ∈ vs1, i ∈ own.map (·.2))
    (hg : ∀ (s : Shared) (H : Hp) (C : Addr) (cl : List (Str × Addr)) (fp : List Addr), PG (X.blk s H scope (compEnvC scope cl C X.env) fp) tg vg) (tgo : TgOk X.K vg g (own.map (·.2)))
    (ht : ∀ (s : Shared) (H : Hp) (C : Addr) (cl : List (Str × Addr)) (fp : List Addr), QTs (X.blk s H scope (compEnvC scope cl C X.env) fp) ifs tt)
    (hi1 : ∀ (s : Shared) (H : Hp) (C : Addr) (cl : List (Str × Addr)) (fp : List Addr), QIS (X.blk s H scope (compEnvC scope cl C X.env) fp) tg1 iter1 ti1)
    (hg1 : ∀ (s : Shared) (H : Hp) (C : Addr) (cl : List (Str × Addr)) (fp : List Addr), PG (X.blk s H scope (compEnvC scope cl C X.env) fp) tg1 vg1) (tgo1 : TgOk X.K vg1 g1 vs1)
    (ht1 : ∀ (s : Shared) (H : Hp) (C : Addr) (cl : List (Str × Addr)) (fp : List Addr), QTs (X.blk s H scope (compEnvC scope cl C X.env) fp) ifs1 tt1)
    (he : ∀ (s : Shared) (H : Hp) (C : Addr) (cl : List (Str × Addr)) (fp : List Addr), QE (X.blk s H scope (compEnvC scope cl C X.env) fp) elt te) (hs : ∀ x, foldedSetIterable iter X.env x = pure x := by intro _; rfl) (hs1 : ∀ env x, foldedSetIterable iter1 env x = pure x := by intro _ _; rfl) :
    QS X (.Assign [.Name y py] (.ListComp elt [⟨tg, iter, ifs, 0⟩, ⟨tg1, iter1, ifs1, 0⟩] scope pos) spos) (dAsg (dLc2 mk ti g tt ti1 g1 tt1 te (own.map (·.2)) vs1) (dName i)) :=
  ps_mono (ps_setLc2 (wi := upI X.K ti) (tt := upT X.K tt) (wi1 := upIS X.K ti1) (tt1 := upT X.K tt1) (te := up X.K te) hc hN hy hyl hsw hi ok hv hg ht hi1 hg1 ht1 he hs hs1) fun D τ H h => by
    obtain ⟨σ, G, N, E, hs, hg, ht, q⟩ := h
    refine up_lc2 tgo tgo1 ⟨σ, G, N, _, hs, hg, ht, fun d G' N' v H' h s' r => ?_⟩
    exact q.nx _ _ _ _ _ h s' ((hs.le s'.kp).set r i)
end
end DL

set_option Elab.async false
set_option linter.all false
set_option maxRecDepth 100000
set_option maxHeartbeats 4000000
set_option autoImplicit false
namespace DL
open PySem PySem.Spec PyProof.Rows L2
/-! ### ("a", "b")[:k]: a slice of a tuple of texts without a dict is one again -/
section
variable {X : Cx} {e : Expr} {te : DE} {pos : Pos}
def rSlN (K : PySem.W.Frag) : V → Option Int → Option Int → Hp → VK → Prop := fun x lo hi H Q => ∃ a xs, x = .ref a ∧ SqT K H a xs ∧
  (HT.sIx xs.length 0 lo = 0 ∧ HT.sIx xs.length xs.length hi = xs.length → Q (.ref a) H) ∧ (¬ (HT.sIx xs.length 0 lo = 0 ∧ HT.sIx xs.length xs.length hi = xs.length) → ∀ (p : Addr) (o : Obj), H p = none → o.cls = .type "tuple" → o.dict = none → Q (.ref p) (upd H p (.frz o (.tup (cutV xs lo hi)))))
theorem sl_tupN : SlR X (rSlN X.K) := by
  intro pins s σ H x v vl vu lo hi sl Q I rx hs pl pu h
  obtain ⟨a, xs, rfl, hx, q1, q2⟩ := h
  cases rx
  obtain ⟨its, r, ht, hz⟩ := I.tuple hx
  have hlen : its.toArray.size = xs.length := by rw [List.size_toArray]; exact r.length.symm
  refine ⟨"tuple", _, PyProof.Rows.slot_tuple_getitem.lookup, ht.typeIs, ?_⟩
  by_cases hw : HT.sIx xs.length 0 lo = 0 ∧ HT.sIx xs.length xs.length hi = xs.length
  · exact getItem_tuple_whole ht hs pl pu (by rw [hlen]; exact hw) ⟨.ref a, H, I, rfl, q1 hw⟩
  · refine HT.getItem_tuple_cut ht hs pl pu (by rw [hlen]; exact hw) ?_ (by rw [hlen]; exact hz)
    rw [hlen]
    refine ⟨.ref s.heap.objs.size, _, I.laid (t' := s.toks) (o := .frz _ (.tup (cutV xs lo hi))) (fun b ob q => Heap.get?_push_of_some _ q) (Nat.le_refl _) ⟨Heap.get?_push_size _ rfl, ?_⟩, rfl, q2 hw _ _ (I.hok.fresh (Nat.le_refl _)) rfl rfl⟩
    exact show ObjOk X.prog X.w _ _ _ (.tup _) from ⟨Nat.le_trans (cutV_length xs lo hi) hz, _, (r.drop (HT.sIx xs.length 0 lo)).take (HT.sIx xs.length xs.length hi - HT.sIx xs.length 0 lo), IsTup.new _ _⟩
def dSliceN (te : DE) (tl th : DO) : DE := fun σ G R => te σ G fun x G1 => tl σ G1 fun l G2 => th σ G2 fun u G3 => match x with | .nt zs => R (.nt (cutL zs l u)) G3 | _ => False
theorem cutV_strs (zs : List Str) (lo hi : Option Int) : cutV (zs.map V.str) lo hi = (cutL zs lo hi).map V.str := by
  unfold cutV cutL
  simp only [List.length_map, List.map_take, List.map_drop]
theorem qe_sliceN {lo hi : Option Expr} {tl th : DO} {p2 : Pos} (he : QE X e te) (hl : QO X lo tl) (hu : QO X hi th) : QE X (.Subscript e (.Slice lo hi none p2) pos) (dSliceN te tl th) :=
  pe_mono (pe_slice sl_tupN he hl hu) fun τ H Q h => by
    obtain ⟨σ, G, N, R, hs, hg, ht, q⟩ := h
    refine ⟨σ, G, N, _, hs, hg, ht, fun d G1 N1 v1 H1 h1 s1 r1 => ?_⟩
    refine ⟨σ, G1, N1, _, hs.le s1.kp, s1.rel, h1, fun l G2 N2 H2 h2 s2 => ?_⟩
    refine ⟨σ, G2, N2, _, (hs.le s1.kp).le s2.kp, s2.rel, h2, fun u G3 N3 H3 h3 s3 => ?_⟩
    have s13 := (s1.trans s2).trans s3
    have r3 := (r1.le s2.kp).le s3.kp
    have q3 := q.le s13
    have rg := s3.rel
    split at h3
    · rename_i zs
      obtain ⟨p, rfl, nt⟩ := r3.of_nt
      refine ⟨p, zs.map V.str, rfl, nt.sq, fun hw => ?_, fun hw p' o np ho hd => ?_⟩
      · rw [List.length_map] at hw
        rw [cut_whole hw] at h3
        exact q3.at rg h3 r3
      · rw [cutV_strs]
        refine q3 _ _ _ _ _ h3 (Stp.new0 rg np) ?_
        simp only [RD]
        exact ⟨_, rfl, .inl ⟨o, upd_same, ho, hd⟩⟩
    · exact h3.elim
theorem x_sliceN {tl th : DO} {σ : Sd} {G : Gp} {R : DK} : dSliceN te tl th σ G R = te σ G fun x G1 => tl σ G1 fun l G2 => th σ G2 fun u G3 => match x with | .nt zs => R (.nt (cutL zs l u)) G3 | _ => False := rfl
end
end DL

set_option Elab.async false
set_option linter.all false
set_option maxRecDepth 100000
set_option maxHeartbeats 4000000
set_option autoImplicit false
namespace DL
open PySem PySem.Spec PyProof.Rows L2
/-! ### a def that may raise, where it does not -/
theorem FnX.calm {P : Program} {w : World} {K : PySem.W.Frag} {mg : Str → Option Value} {base : Heap} {k : Nat} {f : Addr} {fd : FuncData} {ps : List Str} {sp : DSpX} (F : FnX P w K mg base k f fd ps sp) : FnD P w K mg base k f fd ps (fun ds G R => sp ds G R fun _ _ _ => False) := by
  have lift : ∀ {vs : List V} {H : Hp} {Q : VK} {E : XK}, upSp K (fun ds G R => sp ds G R fun _ _ _ => False) vs H Q E → upSpX K sp vs H Q (fun _ _ _ => False) := by
    rintro vs H Q E ⟨ds, G, N, R, r1, r2, h1, q⟩
    exact ⟨ds, G, N, R, fun _ _ _ => False, r1, r2, h1, q, fun _ _ _ _ _ _ h => h.elim⟩
  refine ⟨fun vs H Q E h => F.len vs H Q _ (lift h), fun A outer s H args us vs Q E hr he hb hv hs => ?_⟩
  refine codeAny_mono (F.run A outer s H args us vs Q (fun _ _ _ => False) hr he hb hv (lift hs)) fun r s' hq => ?_
  cases r with
  | ok fl => cases fl <;> exact hq
  | error e => obtain ⟨_, _, _, _, _, _, _, _, _, _, _, _, hE⟩ := hq; exact hE.elim
end DL

set_option Elab.async false
set_option linter.all false
set_option maxRecDepth 100000
set_option maxHeartbeats 4000000
set_option autoImplicit false
namespace DL
open PySem PySem.Spec PyProof.Rows L2
/-! ### f-strings of texts and ints; partition -/
section
variable {X : Cx} {e : Expr} {te : DE} {pos : Pos}
inductive QJ (X : Cx) : List Expr → List DE → Prop where
  | nil : QJ X [] []
  | cons {e : Expr} {t : DE} {es : List Expr} {ts : List DE} (h : QE X e t) (r : QJ X es ts) : QJ X (e :: es) (t :: ts)
end
section
variable {te : DE} {ts : List DE} {acc x y : Str} {i : Int} {σ : Sd} {G : Gp} {R : DK} {k : Str → Prop}
end
end DL

set_option Elab.async false
set_option linter.all false
set_option maxRecDepth 100000
set_option maxHeartbeats 4000000
set_option autoImplicit false
namespace DL
open PySem PySem.Spec PyProof.Rows L2
/-! ### x in d, d.update(e), of kept dicts with plain keys -/
section
variable {X : Cx}
end
end DL

set_option Elab.async false
set_option linter.all false
set_option maxRecDepth 100000
set_option maxHeartbeats 4000000
set_option autoImplicit false
namespace DL
open PySem PySem.Spec PyProof.Rows L2
/-! ### dict comprehensions over typed things -/
theorem putKD_new {kvs : List (Key × D)} {k : Key} {v : D} (h : ∀ p ∈ kvs, p.1 ≠ k) : putKD kvs k v = kvs ++ [(k, v)] := by
  unfold putKD
  rw [if_neg]
  simp only [Bool.not_eq_true, List.any_eq_false, decide_eq_true_eq]
  exact fun q hq e => h q hq e
end DL

set_option Elab.async false
set_option linter.all false
set_option maxRecDepth 100000
set_option maxHeartbeats 4000000
set_option autoImplicit false
namespace DL
open PySem PySem.Spec PyProof.Rows L2
/-! ### isinstance(None, a class of the program) -/
variable {X : Cx}
theorem kit_noneC {K : PySem.W.Frag} {x : Addr} (hd : PySem.W.hasDictIn K x = true) (ht : PySem.W.typeIn K (.ref x) = some (.type "type")) (hs : PySem.W.subIn K (.type "NoneType") (.ref x) = some false) : PySem.W.kitOne K (.type "NoneType") (.ref x) = some false := by
  obtain ⟨cd, hc, _⟩ := PySem.W.any_some hd
  unfold PySem.W.kitOne
  rw [if_neg (fun e => by cases beq_iff_eq.mp e)]
  show (if ((PySem.W.clsIn K x).isSome && PySem.W.typeIn K (.ref x) == some (.type "type")) = true then PySem.W.subIn K (.type "NoneType") (.ref x) else none) = _
  rw [if_pos (by rw [hc, ht] <;> rfl)]
  exact hs
def dIsiN (K : PySem.W.Frag) : DRn := fun ds G R => match ds with
  | [.non, .ref x] => PySem.W.kitOne K (.type "NoneType") (.ref x) = some false ∧ R (.bl false) G
  | _ => dIsiE K ds G R
theorem cd_isiN : CallD X (.builtin "isinstance") (dIsiN X.K) := by
  intro pins s σ H xs us Q I r h
  obtain ⟨cs, G, N, R, rd, rg, h, q⟩ := h
  unfold dIsiN at h
  split at h
  · rename_i x
    obtain ⟨e, h⟩ := h
    obtain ⟨v, r', rfl, r1, r2⟩ := rd.of_cons
    obtain ⟨v', r'', rfl, r3, r4⟩ := r2.of_cons
    obtain rfl := r4.of_nil
    obtain ⟨u1, u2, rfl, ru1, ru2⟩ := vals2 r
    cases (show v = V.non from r1.of_non)
    cases (show v' = V.ref x from r3.of_ref)
    cases (show u1 = Value.none from ru1)
    cases (show u2 = Value.ref x from ru2)
    exact PySem.W.kia_one PySem.W.kitx_none I.kIn True.intro e (fun z => nomatch z) fun tk => ⟨.bl false, H, I.tok tk, rfl, q.at rg h (RD.bl _)⟩
  · exact cd_isiE pins s σ H xs us Q I r ⟨_, G, N, R, rd, rg, h, q⟩
section
variable {K : PySem.W.Frag} {G : Gp} {R : DK} {x a : Addr} {d : D} {ds : List D}
theorem isN_non (e : PySem.W.kitOne K (.type "NoneType") (.ref x) = some false) (h : R (.bl false) G) : dIsiN K [.non, .ref x] G R := ⟨e, h⟩
theorem isN_ref : dIsiN K [.ref a, d] G R = dIsiE K [.ref a, d] G R := rfl
end
end DL

set_option Elab.async false
set_option linter.all false
set_option maxRecDepth 100000
set_option maxHeartbeats 4000000
set_option autoImplicit false
namespace DL
open PySem PySem.Spec PyProof.Rows L2
/-! ### what a def tells, with less known: a new list as a list that nobody changes -/
theorem FnD.wk {P : Program} {w : World} {K : PySem.W.Frag} {mg : Str → Option Value} {base : Heap} {k : Nat} {f : Addr} {fd : FuncData} {ps : List Str} {sp : DSp} (F : FnD P w K mg base k f fd ps sp) : FnD P w K mg base k f fd ps (fun ds G R => sp ds G (Rt R)) :=
  FnOk.imp F fun vs H Q E ⟨ds, G, N, R, r1, r2, h1, q⟩ => ⟨ds, G, N, Rt R, r1, r2, h1, fun d G' N' v H' ⟨d', G2, w, h⟩ s' r => q.wk s' r w h s'.old⟩
end DL

set_option Elab.async false
set_option linter.all false
set_option maxRecDepth 100000
set_option maxHeartbeats 4000000
set_option autoImplicit false
namespace DL
open PySem PySem.Spec PyProof.Rows L2
/-! ### x = {k: v for ..}, x a plain local -/
section
variable {X : Cx} {W : WX} {sc : Scope} {own : List (Str × Nat)} {kx elt tg iter : Expr} {ifs : List Expr} {pos : Pos} {wi : TI} {g : TG} {tt : TT} {teσ tkσ : L2.St → TE}
end
section
variable {X : Cx} {W : WX}
variable {ti : DI} {g : DG} {tt : DT} {tk te : DXW → DE} {ws : List Nat} {σ : Sd} {G : Gp} {R : DK} {RX : DXW}
end
end DL

set_option Elab.async false
set_option linter.all false
set_option maxRecDepth 100000
set_option maxHeartbeats 4000000
set_option autoImplicit false
namespace K68
open PySem PySem.Spec PyProof.Rows L2 DL
local macro_rules | `(tactic| walk_at "d") => `(tactic| dsimp only [dSeq, dNext, dIfS, dRet, dRetN, dAsg, dName, dVar, dC, dOp, dUn, dChain, dB, dAnd, dOr, dNot, dAndV, dOrV, dNotV, dIf, dNil, dCons, dTup, dLst, newL, dCallB, dCall, dCallK, dDrop, dAug, dAugS, dSub, dM, dM0, dSlice, dNoPart, dPart, dLc, dYes, dFor, dIter, dRng1, dEnum, dZipM, srcD, dStar, dInK, dIxK, dLenSet, dRev,
  startD, wipeD, setAll, dNames, List.map_cons, List.map_nil, List.length_cons, List.length_nil, List.replicate, List.cons_append, List.nil_append, List.append_nil, List.getElem?_cons_zero, List.getElem?_cons_succ, List.set_cons_zero, List.set_cons_succ, List.map, Nat.zero_add, Nat.reduceAdd, Nat.reduceSub, Nat.sub_self, Nat.succ_sub_succ_eq_sub])
local macro_rules | `(tactic| walk_at "o") => `(tactic| simp only [dAdd_ii, dAdd_ss, dAdd_tt, dAdd_ll, dMinus_ii, dMul_ii, dMod_ii, dFdiv_ii, dPow_ii, dShl_ii, dNeg_i, dIadd_ii, dLt_ii, dLe_ii, dGt_ii, dGe_ii, dEq_ii, dNe_ii, dEq_ss, dNe_ss, dEq_bb, dNe_bb, dIs_n, dIsNot_n, dMax2_ii, dMin2_ii, dTuple_t, dTuple_l, dList_t, dList_l, dIx_t, dIx_l, dIx_s, dSl_t, dSl_l, dSl_s, newL_f, len_tup, len_lst])
local macro_rules | `(tactic| walk_at "w") => `(tactic| dsimp only [x_var, x_c, x_op, x_un, x_b, x_and, x_or, x_not, x_chain, x_andV, x_orV, x_notV, x_if, x_nil, x_cons, x_tup, x_lst0, x_lst1, x_callB, x_call, x_callK, x_next, x_seq, x_break, x_cont, x_drop, x_ret, x_ifS, x_asg, x_name, x_names, x_sub, x_aug, x_augS, x_for, x_lc0, x_lc1, x_yes, x_noPart, x_part, x_slice, x_iter, it_t, it_l, it_n, it_s, it_r, x_rng1, x_enum, x_rev, x_m, x_m0, x_mX, x_zip, x_star_t, x_star_l, x_lenSet, x_forgo0, x_lcgo0, x_while, x_par, x_sortK,
  br_t, br_f, isB_bl, isI_int, isN_some, slo_some, atL_lst, ix_t, ix_l, ix_n,
  dAdd_ii, dAdd_ss, dAdd_tt, dAdd_ll, dMinus_ii, dMul_ii, dMod_ii, dFdiv_ii, dPow_ii, dShl_ii, dNeg_i, dIadd_ii, dLt_ii, dLe_ii, dGt_ii, dGe_ii, ltE_ii, ltE_ss, srcD, isi_i, isi_s, isi_b, isi_n, isi_t, isi_nt, isi_l, isi2_i, isi2_s, isi2_b, isi2_n, isi2_t, isi2_nt, isi2_l, inon_n, inon_i, inon_s, inon_b, inon_t, inon_l, inon_r, dEq_ii, dNe_ii, dEq_ss, dNe_ss, dEq_bb, dNe_bb, dIs_n, dIsNot_n, dMax2_ii, dMin2_ii, dTuple_t, dTuple_l, dList_t, dList_l, dSl_t, dSl_l, dSl_s, newL_f, newL_t, app_r, int_b, int_i, strI_i, strX_i, strX_s,
  startD, wipeD, setAll, permL, List.filterMap, List.map_cons, List.map_nil, List.length_cons, List.length_nil, List.replicate, List.cons_append, List.nil_append, List.append_nil, List.getElem?_cons_zero, List.getElem?_cons_succ, List.set_cons_zero, List.set_cons_succ, List.map, Nat.zero_add, Nat.reduceAdd, Nat.reduceSub, Nat.sub_self, Nat.succ_sub_succ_eq_sub])
local macro_rules | `(tactic| walk_at "v") => `(tactic| simp only [ofString_inj, String.reduceEq, at_0, at_1, at_2, at_3, at_4, at_5, isN_some, isBB_bl, isB_bl, br_t, br_f, br_not, br_and, br_or, br_dec, ix_r, len_tup, len_lst, len_nt, ltE_key, gup_gup, gup_same, starD_one, cut1, cut2, kt1, kt2, kt3, kt4, kt5, kt6, isTy, String.reduceBEq, Bool.or_false, Bool.false_or, Bool.true_or, Bool.or_true, Bool.and_false, Bool.false_and, Bool.true_and, Bool.and_true, Bool.not_true, Bool.not_false, decide_true, decide_false, eq_self_iff_true, Bool.false_eq_true, Int.reduceAdd, Int.add_zero, if_true, if_false, true_and, and_true])
local macro_rules | `(tactic| walk_at "side") => `(tactic| first | with_reducible assumption | omega | exact mty_up | exact True.intro | (simp only [List.mem_cons, ofString_inj, String.reduceEq, true_or, or_true, List.length_map]; done) | with_reducible exact (rfl : (_ : Nat) = _) | exact (rfl : (_ : Option String) = _) | (refine small_line ?_; omega) | (walk_at "ll"; first | omega | (refine small_line ?_; omega) | fail) | (exact log_small (by omega)) | fail)
local macro_rules | `(tactic| walk_at "x") => `(tactic| fail)
local macro_rules | `(tactic| walk_at "go") => `(tactic| repeat' (first | dsimp only [x_var, x_c, x_op, x_un, x_b, x_and, x_or, x_not, x_chain, x_andV, x_orV, x_notV, x_if, x_nil, x_cons, x_tup, x_lst0, x_lst1, x_callB, x_call, x_callK, x_next, x_seq, x_break, x_cont, x_drop, x_ret, x_ifS, x_asg, x_name, x_names, x_sub, x_aug, x_augS, x_for, x_lc0, x_lc1, x_yes, x_noPart, x_part, x_slice, x_iter, it_t, it_l, it_n, it_s, it_r, x_rng1, x_enum, x_rev, x_m, x_m0, x_mX, x_zip, x_star_t, x_star_l, x_lenSet, x_forgo0, x_lcgo0, x_while, x_par, x_sortK, br_t, br_f, isB_bl, isI_int, isN_some, slo_some, atL_lst, ix_t, ix_l, ix_n, dAdd_ii, dAdd_ss, dAdd_tt, dAdd_ll, dMinus_ii, dMul_ii, dMod_ii, dFdiv_ii, dPow_ii, dShl_ii, dNeg_i, dIadd_ii, dLt_ii, dLe_ii, dGt_ii, dGe_ii, ltE_ii, ltE_ss, srcD, isi_i, isi_s, isi_b, isi_n, isi_t, isi_nt, isi_l, isi2_i, isi2_s, isi2_b, isi2_n, isi2_t, isi2_nt, isi2_l, inon_n, inon_i, inon_s, inon_b, inon_t, inon_l, inon_r, dEq_ii, dNe_ii, dEq_ss, dNe_ss, dEq_bb, dNe_bb, dIs_n, dIsNot_n, dMax2_ii, dMin2_ii, dTuple_t, dTuple_l, dList_t, dList_l, dSl_t, dSl_l, dSl_s, newL_f, newL_t, app_r, int_b, int_i, strI_i, strX_i, strX_s, startD, wipeD, setAll, permL, List.filterMap, List.map_cons, List.map_nil, List.length_cons, List.length_nil, List.replicate, List.cons_append, List.nil_append, List.append_nil, List.getElem?_cons_zero, List.getElem?_cons_succ, List.set_cons_zero, List.set_cons_succ, List.map, Nat.zero_add, Nat.reduceAdd, Nat.reduceSub, Nat.sub_self, Nat.succ_sub_succ_eq_sub] | simp only [ofString_inj, String.reduceEq, at_0, at_1, at_2, at_3, at_4, at_5, isN_some, isBB_bl, isB_bl, br_t, br_f, br_not, br_and, br_or, br_dec, ix_r, len_tup, len_lst, len_nt, ltE_key, gup_gup, gup_same, starD_one, cut1, cut2, kt1, kt2, kt3, kt4, kt5, kt6, isTy, String.reduceBEq, Bool.or_false, Bool.false_or, Bool.true_or, Bool.or_true, Bool.and_false, Bool.false_and, Bool.true_and, Bool.and_true, Bool.not_true, Bool.not_false, decide_true, decide_false, eq_self_iff_true, Bool.false_eq_true, Int.reduceAdd, Int.add_zero, if_true, if_false, true_and, and_true] | walk_at "x" | with_reducible refine kont_go ?_ | with_reducible refine rt_sub (by assumption) ?_ | with_reducible refine rt_lst (by assumption) ?_ | with_reducible refine rt_drop (by assumption) ?_ | with_reducible refine rt_keep (by assumption) (by assumption) ?_ | with_reducible refine rt_same ?_ | (refine fun (p : Addr) (_ : _ = none) => ?_) | refine join_gor gup_same rfl (by walk_at "side") ?_ | with_reducible refine lc_cons ?_ | with_reducible refine for_cons ?_ | refine join_go rfl (by walk_at "side") ?_ | refine And.intro (by first | with_reducible assumption | omega | exact mty_up | exact True.intro | (simp only [List.mem_cons, ofString_inj, String.reduceEq, true_or, or_true, List.length_map]; done) | with_reducible exact (rfl : (_ : Nat) = _) | exact (rfl : (_ : Option String) = _) | (refine small_line ?_; omega) | (walk_at "ll"; first | omega | (refine small_line ?_; omega) | fail) | (exact log_small (by omega)) | fail) ?_ | fail))
def topS (i : Nat) : Stmt := PySem.Challenge.pw_steploft_k68_which_words_differ.main.body.getD i (.Pass ⟨0, 0, 0, 0⟩)
abbrev s_both_added : Stmt := topS 4
abbrev N_both_added : List Str := ["one", "other"]
theorem sc_both_added : FnScope N_both_added ["one", "other"] (defScope s_both_added) := ⟨rfl, rfl, rfl, by decide +kernel, rfl, by decide +kernel, by decide +kernel⟩
abbrev s_taken_off : Stmt := topS 5
abbrev N_taken_off : List Str := ["one", "other"]
theorem sc_taken_off : FnScope N_taken_off ["one", "other"] (defScope s_taken_off) := ⟨rfl, rfl, rfl, by decide +kernel, rfl, by decide +kernel, by decide +kernel⟩
abbrev s_bits_of_both : Stmt := topS 6
abbrev N_bits_of_both : List Str := ["one", "other"]
theorem sc_bits_of_both : FnScope N_bits_of_both ["one", "other"] (defScope s_bits_of_both) := ⟨rfl, rfl, rfl, by decide +kernel, rfl, by decide +kernel, by decide +kernel⟩
abbrev s_bits_of_one : Stmt := topS 7
abbrev N_bits_of_one : List Str := ["one", "other"]
theorem sc_bits_of_one : FnScope N_bits_of_one ["one", "other"] (defScope s_bits_of_one) := ⟨rfl, rfl, rfl, by decide +kernel, rfl, by decide +kernel, by decide +kernel⟩
abbrev s_bits_unlike : Stmt := topS 8
abbrev N_bits_unlike : List Str := ["one", "other"]
theorem sc_bits_unlike : FnScope N_bits_unlike ["one", "other"] (defScope s_bits_unlike) := ⟨rfl, rfl, rfl, by decide +kernel, rfl, by decide +kernel, by decide +kernel⟩
abbrev s_is_less : Stmt := topS 9
abbrev N_is_less : List Str := ["one", "other"]
theorem sc_is_less : FnScope N_is_less ["one", "other"] (defScope s_is_less) := ⟨rfl, rfl, rfl, by decide +kernel, rfl, by decide +kernel, by decide +kernel⟩
abbrev s_is_same : Stmt := topS 10
abbrev N_is_same : List Str := ["one", "other"]
theorem sc_is_same : FnScope N_is_same ["one", "other"] (defScope s_is_same) := ⟨rfl, rfl, rfl, by decide +kernel, rfl, by decide +kernel, by decide +kernel⟩
abbrev s_reckoned : Stmt := topS 12
abbrev N_reckoned : List Str := ["machine", "op", "one", "other", "does"]
theorem sc_reckoned : FnScope N_reckoned ["machine", "op", "one", "other"] (defScope s_reckoned) := ⟨rfl, rfl, rfl, by decide +kernel, rfl, by decide +kernel, by decide +kernel⟩
abbrev s_place_written : Stmt := topS 13
abbrev N_place_written : List Str := ["order"]
theorem sc_place_written : FnScope N_place_written ["order"] (defScope s_place_written) := ⟨rfl, rfl, rfl, by decide +kernel, rfl, by decide +kernel, by decide +kernel⟩
abbrev s_word_at : Stmt := topS 14
abbrev N_word_at : List Str := ["machine", "state", "place", "visible", "hidden", "memory", "word", "part"]
theorem sc_word_at : FnScope N_word_at ["machine", "state", "place"] (defScope s_word_at) := ⟨rfl, rfl, rfl, by decide +kernel, rfl, by decide +kernel, by decide +kernel⟩
abbrev s_word_made : Stmt := topS 16
abbrev N_word_made : List Str := ["machine", "state", "order", "kind", "op", "to", "one", "other", "word"]
theorem sc_word_made : FnScope N_word_made ["machine", "state", "order"] (defScope s_word_made) := ⟨rfl, rfl, rfl, by decide +kernel, rfl, by decide +kernel, by decide +kernel⟩
abbrev s_cell_asked : Stmt := topS 17
abbrev N_cell_asked : List Str := ["machine", "state", "order", "at"]
theorem sc_cell_asked : FnScope N_cell_asked ["machine", "state", "order"] (defScope s_cell_asked) := ⟨rfl, rfl, rfl, by decide +kernel, rfl, by decide +kernel, by decide +kernel⟩
abbrev s_row_done : Stmt := topS 18
abbrev N_row_done : List Str := ["machine", "state", "orders", "visible", "hidden", "memory", "order", "cell", "word", "part"]
theorem sc_row_done : FnScope N_row_done ["machine", "state", "orders"] (defScope s_row_done) := ⟨rfl, rfl, rfl, by decide +kernel, rfl, by decide +kernel, by decide +kernel⟩
abbrev s_worth : Stmt := topS 21
abbrev N_worth : List Str := ["machine", "state", "term", "word", "parts", "words", "part"]
theorem sc_worth : FnScope N_worth ["machine", "state", "term"] (defScope s_worth) := ⟨rfl, rfl, rfl, by decide +kernel, rfl, by decide +kernel, by decide +kernel⟩
abbrev s_parts_behind : Stmt := topS 22
abbrev N_parts_behind : List Str := ["machine", "state", "meaning", "word", "parts", "test", "one", "other", "sets", "stores", "words", "memory", "cell", "term", "number", "new", "visible", "name", "old"]
theorem sc_parts_behind : FnScope N_parts_behind ["machine", "state", "meaning"] (defScope s_parts_behind) := ⟨rfl, rfl, rfl, by decide +kernel, rfl, by decide +kernel, by decide +kernel⟩
abbrev s_meant : Stmt := topS 23
abbrev N_meant : List Str := ["machine", "meaning", "state"]
theorem sc_meant : FnScope N_meant ["machine", "meaning", "state"] (defScope s_meant) := ⟨rfl, rfl, rfl, by decide +kernel, rfl, by decide +kernel, by decide +kernel⟩
abbrev s_word_at_programs : Stmt := topS 25
abbrev N_word_at_programs : List Str := ["machine", "state", "place", "visible", "words", "memory"]
theorem sc_word_at_programs : FnScope N_word_at_programs ["machine", "state", "place"] (defScope s_word_at_programs) := ⟨rfl, rfl, rfl, by decide +kernel, rfl, by decide +kernel, by decide +kernel⟩
abbrev s_run : Stmt := topS 27
abbrev N_run : List Str := ["machine", "program", "state", "number", "orders", "further"]
theorem sc_run : FnScope N_run ["machine", "program", "state"] (defScope s_run) := ⟨rfl, rfl, rfl, by decide +kernel, rfl, by decide +kernel, by decide +kernel⟩
abbrev s_all_words : Stmt := topS 30
abbrev N_all_words : List Str := ["bits", "many", "top", "turn", "found", "row", "word"]
theorem sc_all_words : FnScope N_all_words ["bits", "many"] (defScope s_all_words) := ⟨rfl, rfl, rfl, by decide +kernel, rfl, by decide +kernel, by decide +kernel⟩
abbrev s_does_otherwise : Stmt := topS 31
abbrev N_does_otherwise : List Str := ["machine", "meaning", "program", "state", "due", "told"]
theorem sc_does_otherwise : FnScope N_does_otherwise ["machine", "meaning", "program", "state"] (defScope s_does_otherwise) := ⟨rfl, rfl, rfl, by decide +kernel, rfl, by decide +kernel, by decide +kernel⟩
abbrev s_differs : Stmt := topS 32
abbrev N_differs : List Str := ["machine", "meaning", "program", "bits", "registers", "hidden", "alus", "moves", "cells", "words", "state"]
theorem sc_differs : FnScope N_differs ["machine", "meaning", "program"] (defScope s_differs) := ⟨rfl, rfl, rfl, by decide +kernel, rfl, by decide +kernel, by decide +kernel⟩
abbrev s__law_bag : Stmt := topS 34
abbrev N__law_bag : List Str := ["cell", "k"]
theorem sc__law_bag : FnScope N__law_bag ["cell", "k"] (defScope s__law_bag) := ⟨rfl, rfl, rfl, by decide +kernel, rfl, by decide +kernel, by decide +kernel⟩
abbrev s__law_draw : Stmt := topS 35
abbrev N__law_draw : List Str := ["bag", "many", "digit", "one"]
theorem sc__law_draw : FnScope N__law_draw ["bag", "many"] (defScope s__law_draw) := ⟨rfl, rfl, rfl, by decide +kernel, rfl, by decide +kernel, by decide +kernel⟩
abbrev s__law_same : Stmt := topS 36
abbrev N__law_same : List Str := ["found", "due", "one", "other"]
theorem sc__law_same : FnScope N__law_same ["found", "due"] (defScope s__law_same) := ⟨rfl, rfl, rfl, by decide +kernel, rfl, by decide +kernel, by decide +kernel⟩
abbrev s__law_machine : Stmt := topS 37
abbrev N__law_machine : List Str := ["bag", "most", "bits", "words", "many", "cells"]
theorem sc__law_machine : FnScope N__law_machine ["bag", "most"] (defScope s__law_machine) := ⟨rfl, rfl, rfl, by decide +kernel, rfl, by decide +kernel, by decide +kernel⟩
abbrev s__law_term : Stmt := topS 38
abbrev N__law_term : List Str := ["machine", "at", "many"]
theorem sc__law_term : FnScope N__law_term ["machine", "at"] (defScope s__law_term) := ⟨rfl, rfl, rfl, by decide +kernel, rfl, by decide +kernel, by decide +kernel⟩
abbrev s__law_case : Stmt := topS 39
abbrev N__law_case : List Str := ["machine", "bag", "many", "every", "left", "places", "to", "word", "meaning", "words", "at", "test", "due", "k"]
theorem sc__law_case : FnScope N__law_case ["machine", "bag"] (defScope s__law_case) := ⟨rfl, rfl, rfl, by decide +kernel, rfl, by decide +kernel, by decide +kernel⟩
abbrev s__law_refused : Stmt := topS 40
abbrev N__law_refused : List Str := ["bits", "many", "cells", "machine", "caught", "e"]
theorem sc__law_refused : FnScope N__law_refused ["bits", "many", "cells"] (defScope s__law_refused) := ⟨rfl, rfl, rfl, by decide +kernel, rfl, by decide +kernel, by decide +kernel⟩
abbrev s_law : Stmt := topS 41
abbrev N_law : List Str := ["script", "cells_here", "k", "bag", "machine", "meaning", "due", "bits", "many", "cells", "some"]
theorem sc_law : FnScope N_law ["script"] (defScope s_law) := ⟨rfl, rfl, rfl, by decide +kernel, rfl, by decide +kernel, by decide +kernel⟩
theorem ll_0 : (Str.ofString "steploft.errors").length = 15 := by rw [len_lit]; rfl
theorem ll_1 : (Str.ofString "steploft.machines").length = 17 := by rw [len_lit]; rfl
theorem ll_2 : (Str.ofString "steploft.meanings").length = 17 := by rw [len_lit]; rfl
theorem ll_3 : (Str.ofString "steploft.programs").length = 17 := by rw [len_lit]; rfl
theorem ll_4 : (Str.ofString "steploft.looks").length = 14 := by rw [len_lit]; rfl
theorem ll_5 : (Str.ofString "law_steploft_k68_which_words_differ").length = 35 := by rw [len_lit]; rfl
theorem ll_6 : (Str.ofString "add").length = 3 := by rw [len_lit]; rfl
theorem ll_7 : (Str.ofString "sub").length = 3 := by rw [len_lit]; rfl
theorem ll_8 : (Str.ofString "and").length = 3 := by rw [len_lit]; rfl
theorem ll_9 : (Str.ofString "or").length = 2 := by rw [len_lit]; rfl
theorem ll_10 : (Str.ofString "xor").length = 3 := by rw [len_lit]; rfl
theorem ll_11 : (Str.ofString "less").length = 4 := by rw [len_lit]; rfl
theorem ll_12 : (Str.ofString "same").length = 4 := by rw [len_lit]; rfl
theorem ll_13 : (Str.ofString "store").length = 5 := by rw [len_lit]; rfl
theorem ll_14 : (Str.ofString "put").length = 3 := by rw [len_lit]; rfl
theorem ll_15 : (Str.ofString "alu").length = 3 := by rw [len_lit]; rfl
theorem ll_16 : (Str.ofString "num").length = 3 := by rw [len_lit]; rfl
theorem ll_17 : (Str.ofString "reg").length = 3 := by rw [len_lit]; rfl
theorem ll_18 : (Str.ofString "load").length = 4 := by rw [len_lit]; rfl
theorem ll_19 : (Str.ofString "if").length = 2 := by rw [len_lit]; rfl
theorem ll_20 : (Str.ofString "hid").length = 3 := by rw [len_lit]; rfl
theorem ll_21 : (Str.ofString "do").length = 2 := by rw [len_lit]; rfl
theorem ll_22 : (Str.ofString "no such cell").length = 12 := by rw [len_lit]; rfl
theorem ll_23 : (Str.ofString "trap").length = 4 := by rw [len_lit]; rfl
theorem ll_24 : (Str.ofString "go").length = 2 := by rw [len_lit]; rfl
theorem ll_25 : (Str.ofString "too many bits to go through").length = 27 := by rw [len_lit]; rfl
theorem ll_26 : (Str.ofString "test").length = 4 := by rw [len_lit]; rfl
theorem ll_27 : (Str.ofString "b").length = 1 := by rw [len_lit]; rfl
theorem ll_28 : (Str.ofString "a").length = 1 := by rw [len_lit]; rfl
theorem ll_29 : (Str.ofString "cc").length = 2 := by rw [len_lit]; rfl
theorem ll_30 : (Str.ofString "c").length = 1 := by rw [len_lit]; rfl
theorem ll_31 : (Str.ofString "d").length = 1 := by rw [len_lit]; rfl
theorem ll_32 : (Str.ofString "e").length = 1 := by rw [len_lit]; rfl
theorem ll_33 : (Str.ofString "f").length = 1 := by rw [len_lit]; rfl
theorem ll_34 : (Str.ofString "end").length = 3 := by rw [len_lit]; rfl
structure Ad where
  f_both_added : Addr
  fd_both_added : FuncData
  f_taken_off : Addr
  fd_taken_off : FuncData
  f_bits_of_both : Addr
  fd_bits_of_both : FuncData
  f_bits_of_one : Addr
  fd_bits_of_one : FuncData
  f_bits_unlike : Addr
  fd_bits_unlike : FuncData
  f_is_less : Addr
  fd_is_less : FuncData
  f_is_same : Addr
  fd_is_same : FuncData
  f_reckoned : Addr
  fd_reckoned : FuncData
  f_place_written : Addr
  fd_place_written : FuncData
  f_word_at : Addr
  fd_word_at : FuncData
  f_word_made : Addr
  fd_word_made : FuncData
  f_cell_asked : Addr
  fd_cell_asked : FuncData
  f_row_done : Addr
  fd_row_done : FuncData
  f_worth : Addr
  fd_worth : FuncData
  f_parts_behind : Addr
  fd_parts_behind : FuncData
  f_meant : Addr
  fd_meant : FuncData
  f_word_at_programs : Addr
  fd_word_at_programs : FuncData
  f_run : Addr
  fd_run : FuncData
  f_all_words : Addr
  fd_all_words : FuncData
  f_does_otherwise : Addr
  fd_does_otherwise : FuncData
  f_differs : Addr
  fd_differs : FuncData
  f__law_bag : Addr
  fd__law_bag : FuncData
  f__law_draw : Addr
  fd__law_draw : FuncData
  f__law_same : Addr
  fd__law_same : FuncData
  f__law_machine : Addr
  fd__law_machine : FuncData
  f__law_term : Addr
  fd__law_term : FuncData
  f__law_case : Addr
  fd__law_case : FuncData
  f__law_refused : Addr
  fd__law_refused : FuncData
  f_law : Addr
  fd_law : FuncData
  x_LoftError : Addr
  x_TooMany : Addr
  x_Trapped : Addr
  k_OPS : Addr
abbrev kv_OPS (a : Ad) : List (Str × D) := [("add", .ref a.f_both_added), ("sub", .ref a.f_taken_off), ("and", .ref a.f_bits_of_both), ("or", .ref a.f_bits_of_one), ("xor", .ref a.f_bits_unlike), ("less", .ref a.f_is_less), ("same", .ref a.f_is_same)]
structure Tx (w : World) (K : PySem.W.Frag) (mg : Str → Option Value) (a : Ad) : Prop where
  F_both_added : Fun K "both_added" "both_added" s_both_added a.f_both_added a.fd_both_added
  b_both_added : Binds K a.fd_both_added ["one", "other"] []
  g_both_added : mg "both_added" = some (.ref a.f_both_added)
  F_taken_off : Fun K "taken_off" "taken_off" s_taken_off a.f_taken_off a.fd_taken_off
  b_taken_off : Binds K a.fd_taken_off ["one", "other"] []
  g_taken_off : mg "taken_off" = some (.ref a.f_taken_off)
  F_bits_of_both : Fun K "bits_of_both" "bits_of_both" s_bits_of_both a.f_bits_of_both a.fd_bits_of_both
  b_bits_of_both : Binds K a.fd_bits_of_both ["one", "other"] []
  g_bits_of_both : mg "bits_of_both" = some (.ref a.f_bits_of_both)
  F_bits_of_one : Fun K "bits_of_one" "bits_of_one" s_bits_of_one a.f_bits_of_one a.fd_bits_of_one
  b_bits_of_one : Binds K a.fd_bits_of_one ["one", "other"] []
  g_bits_of_one : mg "bits_of_one" = some (.ref a.f_bits_of_one)
  F_bits_unlike : Fun K "bits_unlike" "bits_unlike" s_bits_unlike a.f_bits_unlike a.fd_bits_unlike
  b_bits_unlike : Binds K a.fd_bits_unlike ["one", "other"] []
  g_bits_unlike : mg "bits_unlike" = some (.ref a.f_bits_unlike)
  F_is_less : Fun K "is_less" "is_less" s_is_less a.f_is_less a.fd_is_less
  b_is_less : Binds K a.fd_is_less ["one", "other"] []
  g_is_less : mg "is_less" = some (.ref a.f_is_less)
  F_is_same : Fun K "is_same" "is_same" s_is_same a.f_is_same a.fd_is_same
  b_is_same : Binds K a.fd_is_same ["one", "other"] []
  g_is_same : mg "is_same" = some (.ref a.f_is_same)
  F_reckoned : Fun K "reckoned" "reckoned" s_reckoned a.f_reckoned a.fd_reckoned
  b_reckoned : Binds K a.fd_reckoned ["machine", "op", "one", "other"] []
  g_reckoned : mg "reckoned" = some (.ref a.f_reckoned)
  F_place_written : Fun K "place_written" "place_written" s_place_written a.f_place_written a.fd_place_written
  b_place_written : Binds K a.fd_place_written ["order"] []
  g_place_written : mg "place_written" = some (.ref a.f_place_written)
  F_word_at : Fun K "word_at" "word_at" s_word_at a.f_word_at a.fd_word_at
  b_word_at : Binds K a.fd_word_at ["machine", "state", "place"] []
  g_word_at : mg "word_at_machines" = some (.ref a.f_word_at)
  F_word_made : Fun K "word_made" "word_made" s_word_made a.f_word_made a.fd_word_made
  b_word_made : Binds K a.fd_word_made ["machine", "state", "order"] []
  g_word_made : mg "word_made" = some (.ref a.f_word_made)
  F_cell_asked : Fun K "cell_asked" "cell_asked" s_cell_asked a.f_cell_asked a.fd_cell_asked
  b_cell_asked : Binds K a.fd_cell_asked ["machine", "state", "order"] []
  g_cell_asked : mg "cell_asked" = some (.ref a.f_cell_asked)
  F_row_done : Fun K "row_done" "row_done" s_row_done a.f_row_done a.fd_row_done
  b_row_done : Binds K a.fd_row_done ["machine", "state", "orders"] []
  g_row_done : mg "row_done" = some (.ref a.f_row_done)
  F_worth : Fun K "worth" "worth" s_worth a.f_worth a.fd_worth
  b_worth : Binds K a.fd_worth ["machine", "state", "term"] []
  g_worth : mg "worth" = some (.ref a.f_worth)
  F_parts_behind : Fun K "parts_behind" "parts_behind" s_parts_behind a.f_parts_behind a.fd_parts_behind
  b_parts_behind : Binds K a.fd_parts_behind ["machine", "state", "meaning"] []
  g_parts_behind : mg "parts_behind" = some (.ref a.f_parts_behind)
  F_meant : Fun K "meant" "meant" s_meant a.f_meant a.fd_meant
  b_meant : Binds K a.fd_meant ["machine", "meaning", "state"] []
  g_meant : mg "meant" = some (.ref a.f_meant)
  F_word_at_programs : Fun K "word_at" "word_at" s_word_at_programs a.f_word_at_programs a.fd_word_at_programs
  b_word_at_programs : Binds K a.fd_word_at_programs ["machine", "state", "place"] []
  g_word_at_programs : mg "word_at_programs" = some (.ref a.f_word_at_programs)
  F_run : Fun K "run" "run" s_run a.f_run a.fd_run
  b_run : Binds K a.fd_run ["machine", "program", "state"] []
  g_run : mg "run" = some (.ref a.f_run)
  F_all_words : Fun K "all_words" "all_words" s_all_words a.f_all_words a.fd_all_words
  b_all_words : Binds K a.fd_all_words ["bits", "many"] []
  g_all_words : mg "all_words" = some (.ref a.f_all_words)
  F_does_otherwise : Fun K "does_otherwise" "does_otherwise" s_does_otherwise a.f_does_otherwise a.fd_does_otherwise
  b_does_otherwise : Binds K a.fd_does_otherwise ["machine", "meaning", "program", "state"] []
  g_does_otherwise : mg "does_otherwise" = some (.ref a.f_does_otherwise)
  F_differs : Fun K "differs" "differs" s_differs a.f_differs a.fd_differs
  b_differs : Binds K a.fd_differs ["machine", "meaning", "program"] []
  g_differs : mg "differs" = some (.ref a.f_differs)
  F__law_bag : Fun K "_law_bag" "_law_bag" s__law_bag a.f__law_bag a.fd__law_bag
  b__law_bag : Binds K a.fd__law_bag ["cell", "k"] []
  g__law_bag : mg "_law_bag" = some (.ref a.f__law_bag)
  F__law_draw : Fun K "_law_draw" "_law_draw" s__law_draw a.f__law_draw a.fd__law_draw
  b__law_draw : Binds K a.fd__law_draw ["bag", "many"] []
  g__law_draw : mg "_law_draw" = some (.ref a.f__law_draw)
  F__law_same : Fun K "_law_same" "_law_same" s__law_same a.f__law_same a.fd__law_same
  b__law_same : Binds K a.fd__law_same ["found", "due"] []
  g__law_same : mg "_law_same" = some (.ref a.f__law_same)
  F__law_machine : Fun K "_law_machine" "_law_machine" s__law_machine a.f__law_machine a.fd__law_machine
  b__law_machine : Binds K a.fd__law_machine ["bag", "most"] []
  g__law_machine : mg "_law_machine" = some (.ref a.f__law_machine)
  F__law_term : Fun K "_law_term" "_law_term" s__law_term a.f__law_term a.fd__law_term
  b__law_term : Binds K a.fd__law_term ["machine", "at"] []
  g__law_term : mg "_law_term" = some (.ref a.f__law_term)
  F__law_case : Fun K "_law_case" "_law_case" s__law_case a.f__law_case a.fd__law_case
  b__law_case : Binds K a.fd__law_case ["machine", "bag"] []
  g__law_case : mg "_law_case" = some (.ref a.f__law_case)
  F__law_refused : Fun K "_law_refused" "_law_refused" s__law_refused a.f__law_refused a.fd__law_refused
  b__law_refused : Binds K a.fd__law_refused ["bits", "many", "cells"] []
  g__law_refused : mg "_law_refused" = some (.ref a.f__law_refused)
  F_law : Fun K "law" "law" s_law a.f_law a.fd_law
  b_law : Binds K a.fd_law ["script"] []
  g_law : mg "law" = some (.ref a.f_law)
  n_ValueError : mg "ValueError" = none
  n_all : mg "all" = none
  n_bool : mg "bool" = none
  n_int : mg "int" = none
  n_isinstance : mg "isinstance" = none
  n_len : mg "len" = none
  n_list : mg "list" = none
  n_max : mg "max" = none
  n_min : mg "min" = none
  n_range : mg "range" = none
  n_str : mg "str" = none
  n_tuple : mg "tuple" = none
  n_zip : mg "zip" = none
  gx_LoftError : mg "LoftError" = some (.ref a.x_LoftError)
  kx_LoftError : PySem.W.keepIn K (.ref a.x_LoftError) = true
  bx_LoftError : PySem.W.subIn K (.ref a.x_LoftError) (.type "BaseException") = some true
  tx_LoftError : PySem.W.typeIn K (.ref a.x_LoftError) = some (.type "type")
  hx_LoftError : PySem.W.hasDictIn K a.x_LoftError = true
  gx_TooMany : mg "TooMany" = some (.ref a.x_TooMany)
  kx_TooMany : PySem.W.keepIn K (.ref a.x_TooMany) = true
  bx_TooMany : PySem.W.subIn K (.ref a.x_TooMany) (.type "BaseException") = some true
  tx_TooMany : PySem.W.typeIn K (.ref a.x_TooMany) = some (.type "type")
  hx_TooMany : PySem.W.hasDictIn K a.x_TooMany = true
  xx_TooMany : PySem.W.excIn K a.x_TooMany [.type "ValueError", .type "Exception", .type "BaseException", .type "object"] "ValueError.__new__" = true
  gx_Trapped : mg "Trapped" = some (.ref a.x_Trapped)
  kx_Trapped : PySem.W.keepIn K (.ref a.x_Trapped) = true
  bx_Trapped : PySem.W.subIn K (.ref a.x_Trapped) (.type "BaseException") = some true
  tx_Trapped : PySem.W.typeIn K (.ref a.x_Trapped) = some (.type "type")
  hx_Trapped : PySem.W.hasDictIn K a.x_Trapped = true
  xx_Trapped : PySem.W.excIn K a.x_Trapped [.type "Exception", .type "BaseException", .type "object"] "Exception.__new__" = true
  xm_TooMany_LoftError : PySem.W.exmOne K (.ref a.x_TooMany) (.ref a.x_LoftError) = some true
  xm_TooMany_Trapped : PySem.W.exmOne K (.ref a.x_TooMany) (.ref a.x_Trapped) = some false
  xm_Trapped_LoftError : PySem.W.exmOne K (.ref a.x_Trapped) (.ref a.x_LoftError) = some false
  xm_Trapped_Trapped : PySem.W.exmOne K (.ref a.x_Trapped) (.ref a.x_Trapped) = some true
  ec_TooMany : L2.ExcC K a.x_TooMany
  ec_Trapped : L2.ExcC K a.x_Trapped
  ki_TooMany_TooMany : PySem.W.kitOne K (.ref a.x_TooMany) (.ref a.x_TooMany) = some true
  ki_Trapped_TooMany : PySem.W.kitOne K (.ref a.x_Trapped) (.ref a.x_TooMany) = some false
  kn_TooMany : PySem.W.kitOne K (.type "NoneType") (.ref a.x_TooMany) = some false
  ki_TooMany_ValueError : PySem.W.kitOne K (.ref a.x_TooMany) (.type "ValueError") = some true
  ki_Trapped_ValueError : PySem.W.kitOne K (.ref a.x_Trapped) (.type "ValueError") = some false
  c_OPS : ∃ u, mg "OPS" = some u ∧ Kc K (.ref a.k_OPS) u
  d_OPS : KD K w a.k_OPS (kv_OPS a)
  c_MOST_BITS : ∃ t, mg "MOST_BITS" = some (.int 12 t)
local macro_rules | `(tactic| walk_at "ll") => `(tactic| simp only [List.length_map, List.length_append, List.length_cons, List.length_nil, List.map_cons, List.map_nil, List.sum_cons, List.sum_nil, len_app, rng_length, ll_0, ll_1, ll_2, ll_3, ll_4, ll_5, ll_6, ll_7, ll_8, ll_9, ll_10, ll_11, ll_12, ll_13, ll_14, ll_15, ll_16, ll_17, ll_18, ll_19, ll_20, ll_21, ll_22, ll_23, ll_24, ll_25, ll_26, ll_27, ll_28, ll_29, ll_30, ll_31, ll_32, ll_33, ll_34])
/-! ### places and orders -/
inductive Plc where
  | reg (x : Str) | hid (k : Nat)
deriving DecidableEq
inductive Ord where
  | alu (op : Str) (to a b : Plc) | move (to a : Plc) | put (to : Plc) (w : Nat) | load (to a : Plc) | store (a b : Plc)
deriving DecidableEq
def Plc.d : Plc → D
  | .reg x => .tup [.str "reg", .str x] | .hid k => .tup [.str "hid", .int k]
def Ord.d : Ord → D
  | .alu op to a b => .tup [.str "alu", .str op, to.d, a.d, b.d]
  | .move to a => .tup [.str "move", to.d, a.d]
  | .put to w => .tup [.str "put", to.d, .int w]
  | .load to a => .tup [.str "load", to.d, a.d]
  | .store a b => .tup [.str "store", a.d, b.d]
def Plc.txt : Plc → Str
  | .reg x => x | .hid k => "h" ++ toString (k : Int)
def Ord.txt : Ord → Str
  | .alu op to a b => Txt.join " " ["alu", op, to.txt, a.txt, b.txt]
  | .move to a => Txt.join " " ["move", to.txt, a.txt]
  | .put to w => Txt.join " " ["put", to.txt, toString (w : Int)]
  | .load to a => Txt.join " " ["load", to.txt, a.txt]
  | .store a b => Txt.join " " ["store", a.txt, b.txt]
def Ord.kix : Ord → Int
  | .alu _ _ _ _ => 0 | .move _ _ => 1 | .put _ _ => 2 | .load _ _ => 3 | .store _ _ => 4
def Ord.key (o : Ord) : Int × Str := (o.kix, o.txt)
theorem lc_typ {α : Type} {g : DG} {te : DE} {σ : Sd} {gd : Gp → Prop} {G : Gp} (d f : α → D) (hg : gd G) : ∀ (xs : List α) (acc : List D), (∀ x ∈ xs, ∀ Q : DK, Q (f x) G → g (d x) σ G fun σ2 G2 => te σ2 G2 Q) → ∀ Q : List D → Gp → Prop, Q (acc ++ xs.map f) G → dLcGo g dYes te gd σ (xs.map d) acc G Q
  | [], acc, _, Q, q => ⟨hg, by simpa using q⟩
  | x :: xs, acc, h, Q, q => ⟨hg, h x List.mem_cons_self _ (lc_typ d f hg xs (acc ++ [f x]) (fun y hy => h y (List.mem_cons_of_mem _ hy)) Q (by simpa using q))⟩
/-! ### numbers' sizes -/
theorem bits_le {x : Int} {n : Nat} (h : x.natAbs < 2 ^ n) (h0 : 0 < n) : Builtin.Int.intBits x ≤ n := by
  unfold Builtin.Int.intBits
  split
  · omega
  · have := PySem.Flt.log2_lt_of h0 h
    omega
theorem pow_ok {x : Int} {n : Nat} {k : Int} (h : x.natAbs < 2 ^ n) (h0 : 0 < n) (hk : 0 ≤ k) (hk2 : k ≤ 100) (hn : n ≤ 10000) : CPowX x k := by
  refine ⟨hk, ?_⟩
  have h1 := bits_le h h0
  have h2 : (Builtin.Int.intBits x : Int) * k ≤ 10000 * 100 := Int.mul_le_mul (by omega) hk2 hk (by omega)
  omega
theorem mul_ok {x y : Int} (h1 : -(2 ^ 64) < x) (h2 : x < 2 ^ 64) : IntMulOk x y := .of_left (intBits_le_64 h1 h2)
theorem mul_ok' {x y : Int} (h1 : -(2 ^ 64) < y) (h2 : y < 2 ^ 64) : IntMulOk x y := .of_right (intBits_le_64 h1 h2)
theorem div_ok {x y : Int} (h1 : 0 < y) (h2 : y < 2 ^ 64) : CDivW x y := ⟨h1, Nat.lt_of_lt_of_le (PySem.Flt.log2_lt_of (k := 64) (by decide) (by omega)) (by decide)⟩
/-! ### draws -/
def BagO (n : Nat) (o : GO) : Prop := ∃ a b : Int, o = .lst [.int a, .int b] ∧ 0 ≤ a ∧ 0 ≤ b ∧ b ≤ n
theorem BagO.mono {n m : Nat} {o : GO} (h : BagO n o) (l : n ≤ m) : BagO m o := by
  obtain ⟨a, b, e, h1, h2, h3⟩ := h
  exact ⟨a, b, e, h1, h2, by omega⟩
def sp__law_bag : DSp := fun ds G R => match ds with
  | [.int x, .int k] => 0 ≤ k ∧ k ≤ 100 ∧ ∀ p o, G p = none → BagO 5000 o → R (.ref p) (gup G p o)
  | _ => False
theorem ok__law_bag {P : Program} {w : World} {K : PySem.W.Frag} {mg : Str → Option Value} {base : Heap} {a : Ad} (T : Tx w K mg a) : FnD P w K mg base 1 a.f__law_bag a.fd__law_bag ["cell", "k"] sp__law_bag := by
  refine fun_okD T.F__law_bag sc__law_bag (fun ds G R h => ?_) (fun cdv A outer s H hr => ⟨_, (qss_cons (qs_if (qt_cmp (od_ltE (room100 hr)) (qv 0) qe_int (nomark _))
      (qss_one (qs_ret (qe_lst true (qa_cons (qe_un od_neg (qv 0)) (qa_cons (qe_op (od_add false) (qe_op od_mul qe_int (qv 1)) qe_int) qa_nil)))))
      qss_nil)
      (qss_one (qs_ret (qe_lst true (qa_cons (qv 0) (qa_cons (qe_op od_mul qe_int (qv 1)) qa_nil)))))), fun ds G R h => ?_⟩)
  · unfold sp__law_bag at h; split at h; rfl; exact h.elim
  · unfold sp__law_bag at h
    split at h
    · rename_i x k
      obtain ⟨h0, h1, h⟩ := h
      walk_at "go"
      split
      · walk_at "go"
        refine ⟨mul_ok (by decide) (by decide), ?_⟩
        refine ⟨small_line (by decide), fun p np => rt_same (h p _ np ⟨_, _, rfl, by omega, by omega, by omega⟩)⟩
      · walk_at "go"
        refine ⟨mul_ok (by decide) (by decide), ?_⟩
        refine ⟨small_line (by decide), fun p np => rt_same (h p _ np ⟨_, _, rfl, by omega, by omega, by omega⟩)⟩
    · exact h.elim
def sp__law_draw : DSp := fun ds G R => match ds with
  | [.ref s, .int m] => ∃ n o, G s = some o ∧ BagO n o ∧ n ≤ 1000000 ∧ 1 ≤ m ∧ m < 2 ^ 64 ∧ ∀ (r : Nat) o', (r : Int) < m → BagO (n + 1) o' → R (.int r) (gup G s o')
  | _ => False
theorem ok__law_draw {P : Program} {w : World} {K : PySem.W.Frag} {mg : Str → Option Value} {base : Heap} {a : Ad} (T : Tx w K mg a) : FnD P w K mg base 1 a.f__law_draw a.fd__law_draw ["bag", "many"] sp__law_draw := by
  refine fun_okD T.F__law_draw sc__law_draw (fun ds G R h => ?_) (fun cdv A outer s H hr => ⟨_, (qss_cons (qs_augS (qv 0) qe_int gd_ix qe_int od_iadd sd_set)
      (qss_cons (qs_if (qt_cmp od_ge (qe_ix xd_ix (qv 0) qe_int (fun _ _ => rfl)) (qe_op od_pow qe_int qe_int) (nomark _))
      (qss_cons (qs_set (i := 2) sc__law_draw.nd rfl (.inl rfl) (qe_op od_mod (qe_ix xd_ix (qv 0) qe_int (fun _ _ => rfl)) (qv 1)))
      (qss_cons (qs_asg (qe_op od_fdiv (qe_ix xd_ix (qv 0) qe_int (fun _ _ => rfl)) (qv 1)) (qg_sub (qv 0) qe_int sd_set))
      (qss_one (qs_ret (qv 2)))))
      qss_nil)
      (qss_cons (qs_set (i := 3) sc__law_draw.nd rfl (.inl rfl) (qe_op od_mod (qe_op (od_add false) (qe_op (od_add false) (qe_op od_mod (qe_ix xd_ix (qv 0) qe_int (fun _ _ => rfl)) qe_int) (qe_op od_mul qe_int (qe_ix xd_ix (qv 0) qe_int (fun _ _ => rfl)))) qe_int) qe_int))
      (qss_cons (qs_set (i := 3) sc__law_draw.nd rfl (.inl rfl) (qe_op od_mod (qe_op od_mul (qv 3) (qv 3)) qe_int))
      (qss_cons (qs_set (i := 3) sc__law_draw.nd rfl (.inl rfl) (qe_op od_mod (qe_op (od_add false) (qv 3) (qe_op od_mul qe_int (qe_ix xd_ix (qv 0) qe_int (fun _ _ => rfl)))) qe_int))
      (qss_cons (qs_set (i := 3) sc__law_draw.nd rfl (.inl rfl) (qe_op od_mod (qe_op od_mul (qv 3) (qv 3)) qe_int))
      (qss_one (qs_ret (qe_op od_mod (qe_op od_fdiv (qv 3) qe_int) (qv 1)))))))))), fun ds G R h => ?_⟩)
  · unfold sp__law_draw at h; split at h; rfl; exact h.elim
  · unfold sp__law_draw at h
    split at h
    · rename_i s m
      obtain ⟨n, o, e, ⟨a, b, rfl, ha, hb, hb2⟩, hn, hm, hm2, h⟩ := h
      walk_at "d"
      have at1 : atI [D.int a, D.int b] 1 = some (.int b) := rfl
      have at1' : atI [D.int a, D.int (b + 1)] 1 = some (.int (b + 1)) := rfl
      have at0 : atI [D.int a, D.int (b + 1)] 0 = some (.int a) := rfl
      have ix1 : ixN [D.int a, D.int b].length 1 = some 1 := rfl
      have ix0 : ixN [D.int a, D.int (b + 1)].length 0 = some 0 := rfl
      have p10 : ∀ k : Int, 0 ≤ k → k ≤ 100 → CPowX 10 k := fun k h0 h1 => pow_ok (n := 4) (by decide) (by decide) h0 h1 (by decide)
      simp only [dGetI, dIadd, dIx, seqOf, lstOf, e, at1, dSetI, ix1, List.set_cons_zero, List.set_cons_succ, gup_same, at0, dGe, dOrd, dPow, dI]
      refine ⟨p10 _ (by decide) (by decide), ?_⟩
      by_cases h0 : (10 : Int) ^ Int.toNat 18 ≤ a
      · simp only [decide_eq_true h0]
        simp only [dMod, dFdiv, dI, gup_same, at0, dSetI]
        refine ⟨by omega, div_ok (by omega) hm2, ?_⟩
        simp only [ix0, List.set_cons_zero, gup_gup]
        have hr1 := Int.emod_nonneg a (show m ≠ 0 by omega)
        have hr2 := Int.emod_lt_of_pos a (show 0 < m by omega)
        have er : a % m = ((a % m).toNat : Int) := by omega
        rw [er]
        exact ret_same (h _ _ (by omega) ⟨_, _, rfl, Int.ediv_nonneg ha (by omega), by omega, by omega⟩)
      · simp only [decide_eq_false h0]
        simp only [gup_same, at0, at1', dMul, dMod, dFdiv, dAdd, dI]
        have m1 : ∀ x : Int, 0 ≤ x % 2147483587 ∧ x % 2147483587 < 2147483587 := fun x => ⟨Int.emod_nonneg _ (by decide), Int.emod_lt_of_pos _ (by decide)⟩
        have m2 : ∀ x : Int, 0 ≤ x % 2147483563 ∧ x % 2147483563 < 2147483563 := fun x => ⟨Int.emod_nonneg _ (by decide), Int.emod_lt_of_pos _ (by decide)⟩
        refine ⟨by decide, mul_ok (by decide) (by decide), by decide, ?_⟩
        generalize (a % 2147483629 + 104729 * (b + 1) + 1) = x1
        have := m1 x1
        refine ⟨mul_ok (by omega) (by omega), by decide, ?_⟩
        refine ⟨mul_ok (by decide) (by decide), by decide, ?_⟩
        generalize (x1 % 2147483587 * (x1 % 2147483587) % 2147483587 + 40692 * (b + 1)) = x2
        have := m2 x2
        refine ⟨mul_ok (by omega) (by omega), by decide, div_ok (by decide) (by decide), by omega, ?_⟩
        generalize x2 % 2147483563 * (x2 % 2147483563) % 2147483563 / 8 = y
        have hr1 := Int.emod_nonneg y (show m ≠ 0 by omega)
        have hr2 := Int.emod_lt_of_pos y (show 0 < m by omega)
        have er : y % m = ((y % m).toNat : Int) := by omega
        rw [er]
        exact ret_same (h _ _ (by omega) ⟨_, _, rfl, ha, by omega, by omega⟩)
    · exact h.elim
theorem go_draw {s : Addr} {m : Int} {G : Gp} {R : DK} {n : Nat} {o : GO} (e : G s = some o) (ho : BagO n o) (hn : n ≤ 1000000) (h1 : 1 ≤ m) (h2 : m < 2 ^ 64) (k : ∀ (r : Nat) o', (r : Int) < m → BagO (n + 1) o' → R (.int r) (gup G s o')) : sp__law_draw [.ref s, .int m] G R := ⟨n, o, e, ho, hn, h1, h2, k⟩
end K68


set_option Elab.async false
set_option linter.all false
set_option maxRecDepth 100000
set_option maxHeartbeats 4000000
set_option autoImplicit false
namespace K68
open PySem PySem.Spec PyProof.Rows L2 DL
local macro_rules | `(tactic| walk_at "d") => `(tactic| dsimp only [dSeq, dNext, dIfS, dRet, dRetN, dAsg, dName, dVar, dC, dOp, dUn, dChain, dB, dAnd, dOr, dNot, dAndV, dOrV, dNotV, dIf, dNil, dCons, dTup, dLst, newL, dCallB, dCall, dCallK, dDrop, dAug, dAugS, dSub, dM, dM0, dSlice, dNoPart, dPart, dLc, dYes, dFor, dIter, dRng1, dEnum, dZipM, srcD, dStar, dInK, dIxK, dLenSet, dRev,
  startD, wipeD, setAll, dNames, List.map_cons, List.map_nil, List.length_cons, List.length_nil, List.replicate, List.cons_append, List.nil_append, List.append_nil, List.getElem?_cons_zero, List.getElem?_cons_succ, List.set_cons_zero, List.set_cons_succ, List.map, Nat.zero_add, Nat.reduceAdd, Nat.reduceSub, Nat.sub_self, Nat.succ_sub_succ_eq_sub])
local macro_rules | `(tactic| walk_at "o") => `(tactic| simp only [dAdd_ii, dAdd_ss, dAdd_tt, dAdd_ll, dMinus_ii, dMul_ii, dMod_ii, dFdiv_ii, dPow_ii, dShl_ii, dNeg_i, dIadd_ii, dLt_ii, dLe_ii, dGt_ii, dGe_ii, dEq_ii, dNe_ii, dEq_ss, dNe_ss, dEq_bb, dNe_bb, dIs_n, dIsNot_n, dMax2_ii, dMin2_ii, dTuple_t, dTuple_l, dList_t, dList_l, dIx_t, dIx_l, dIx_s, dSl_t, dSl_l, dSl_s, newL_f, len_tup, len_lst])
local macro_rules | `(tactic| walk_at "w") => `(tactic| dsimp only [x_var, x_c, x_op, x_un, x_b, x_and, x_or, x_not, x_chain, x_andV, x_orV, x_notV, x_if, x_nil, x_cons, x_tup, x_lst0, x_lst1, x_callB, x_call, x_callK, x_next, x_seq, x_break, x_cont, x_drop, x_ret, x_ifS, x_asg, x_name, x_names, x_sub, x_aug, x_augS, x_for, x_lc0, x_lc1, x_yes, x_noPart, x_part, x_slice, x_iter, it_t, it_l, it_n, it_s, it_r, x_rng1, x_enum, x_rev, x_m, x_m0, x_mX, x_zip, x_star_t, x_star_l, x_lenSet, x_forgo0, x_lcgo0, x_while, x_par, x_sortK,
  br_t, br_f, isB_bl, isI_int, isN_some, slo_some, atL_lst, ix_t, ix_l, ix_n,
  dAdd_ii, dAdd_ss, dAdd_tt, dAdd_ll, dMinus_ii, dMul_ii, dMod_ii, dFdiv_ii, dPow_ii, dShl_ii, dNeg_i, dIadd_ii, dLt_ii, dLe_ii, dGt_ii, dGe_ii, ltE_ii, ltE_ss, srcD, isi_i, isi_s, isi_b, isi_n, isi_t, isi_nt, isi_l, isi2_i, isi2_s, isi2_b, isi2_n, isi2_t, isi2_nt, isi2_l, inon_n, inon_i, inon_s, inon_b, inon_t, inon_l, inon_r, dEq_ii, dNe_ii, dEq_ss, dNe_ss, dEq_bb, dNe_bb, dIs_n, dIsNot_n, dMax2_ii, dMin2_ii, dTuple_t, dTuple_l, dList_t, dList_l, dSl_t, dSl_l, dSl_s, newL_f, newL_t, app_r, int_b, int_i, strI_i, strX_i, strX_s,
  startD, wipeD, setAll, permL, List.filterMap, List.map_cons, List.map_nil, List.length_cons, List.length_nil, List.replicate, List.cons_append, List.nil_append, List.append_nil, List.getElem?_cons_zero, List.getElem?_cons_succ, List.set_cons_zero, List.set_cons_succ, List.map, Nat.zero_add, Nat.reduceAdd, Nat.reduceSub, Nat.sub_self, Nat.succ_sub_succ_eq_sub])
local macro_rules | `(tactic| walk_at "v") => `(tactic| simp only [ofString_inj, String.reduceEq, at_0, at_1, at_2, at_3, at_4, at_5, isN_some, isBB_bl, isB_bl, br_t, br_f, br_not, br_and, br_or, br_dec, ix_r, len_tup, len_lst, len_nt, ltE_key, gup_gup, gup_same, starD_one, cut1, cut2, kt1, kt2, kt3, kt4, kt5, kt6, isTy, String.reduceBEq, Bool.or_false, Bool.false_or, Bool.true_or, Bool.or_true, Bool.and_false, Bool.false_and, Bool.true_and, Bool.and_true, Bool.not_true, Bool.not_false, decide_true, decide_false, eq_self_iff_true, Bool.false_eq_true, Int.reduceAdd, Int.add_zero, if_true, if_false, true_and, and_true])
local macro_rules | `(tactic| walk_at "side") => `(tactic| first | with_reducible assumption | omega | exact mty_up | exact True.intro | (simp only [List.mem_cons, ofString_inj, String.reduceEq, true_or, or_true, List.length_map]; done) | with_reducible exact (rfl : (_ : Nat) = _) | exact (rfl : (_ : Option String) = _) | (refine small_line ?_; omega) | (walk_at "ll"; first | omega | (refine small_line ?_; omega) | fail) | (exact log_small (by omega)) | fail)
local macro_rules | `(tactic| walk_at "x") => `(tactic| fail)
local macro_rules | `(tactic| walk_at "go") => `(tactic| repeat' (first | dsimp only [x_var, x_c, x_op, x_un, x_b, x_and, x_or, x_not, x_chain, x_andV, x_orV, x_notV, x_if, x_nil, x_cons, x_tup, x_lst0, x_lst1, x_callB, x_call, x_callK, x_next, x_seq, x_break, x_cont, x_drop, x_ret, x_ifS, x_asg, x_name, x_names, x_sub, x_aug, x_augS, x_for, x_lc0, x_lc1, x_yes, x_noPart, x_part, x_slice, x_iter, it_t, it_l, it_n, it_s, it_r, x_rng1, x_enum, x_rev, x_m, x_m0, x_mX, x_zip, x_star_t, x_star_l, x_lenSet, x_forgo0, x_lcgo0, x_while, x_par, x_sortK, br_t, br_f, isB_bl, isI_int, isN_some, slo_some, atL_lst, ix_t, ix_l, ix_n, dAdd_ii, dAdd_ss, dAdd_tt, dAdd_ll, dMinus_ii, dMul_ii, dMod_ii, dFdiv_ii, dPow_ii, dShl_ii, dNeg_i, dIadd_ii, dLt_ii, dLe_ii, dGt_ii, dGe_ii, ltE_ii, ltE_ss, srcD, isi_i, isi_s, isi_b, isi_n, isi_t, isi_nt, isi_l, isi2_i, isi2_s, isi2_b, isi2_n, isi2_t, isi2_nt, isi2_l, inon_n, inon_i, inon_s, inon_b, inon_t, inon_l, inon_r, dEq_ii, dNe_ii, dEq_ss, dNe_ss, dEq_bb, dNe_bb, dIs_n, dIsNot_n, dMax2_ii, dMin2_ii, dTuple_t, dTuple_l, dList_t, dList_l, dSl_t, dSl_l, dSl_s, newL_f, newL_t, app_r, int_b, int_i, strI_i, strX_i, strX_s, startD, wipeD, setAll, permL, List.filterMap, List.map_cons, List.map_nil, List.length_cons, List.length_nil, List.replicate, List.cons_append, List.nil_append, List.append_nil, List.getElem?_cons_zero, List.getElem?_cons_succ, List.set_cons_zero, List.set_cons_succ, List.map, Nat.zero_add, Nat.reduceAdd, Nat.reduceSub, Nat.sub_self, Nat.succ_sub_succ_eq_sub] | simp only [ofString_inj, String.reduceEq, at_0, at_1, at_2, at_3, at_4, at_5, isN_some, isBB_bl, isB_bl, br_t, br_f, br_not, br_and, br_or, br_dec, ix_r, len_tup, len_lst, len_nt, ltE_key, gup_gup, gup_same, starD_one, cut1, cut2, kt1, kt2, kt3, kt4, kt5, kt6, isTy, String.reduceBEq, Bool.or_false, Bool.false_or, Bool.true_or, Bool.or_true, Bool.and_false, Bool.false_and, Bool.true_and, Bool.and_true, Bool.not_true, Bool.not_false, decide_true, decide_false, eq_self_iff_true, Bool.false_eq_true, Int.reduceAdd, Int.add_zero, if_true, if_false, true_and, and_true] | walk_at "x" | with_reducible refine kont_go ?_ | with_reducible refine rt_sub (by assumption) ?_ | with_reducible refine rt_lst (by assumption) ?_ | with_reducible refine rt_drop (by assumption) ?_ | with_reducible refine rt_keep (by assumption) (by assumption) ?_ | with_reducible refine rt_same ?_ | (refine fun (p : Addr) (_ : _ = none) => ?_) | refine join_gor gup_same rfl (by walk_at "side") ?_ | with_reducible refine lc_cons ?_ | with_reducible refine for_cons ?_ | refine join_go rfl (by walk_at "side") ?_ | refine And.intro (by first | with_reducible assumption | omega | exact mty_up | exact True.intro | (simp only [List.mem_cons, ofString_inj, String.reduceEq, true_or, or_true, List.length_map]; done) | with_reducible exact (rfl : (_ : Nat) = _) | exact (rfl : (_ : Option String) = _) | (refine small_line ?_; omega) | (walk_at "ll"; first | omega | (refine small_line ?_; omega) | fail) | (exact log_small (by omega)) | fail) ?_ | fail))
local macro_rules | `(tactic| walk_at "ll") => `(tactic| simp only [List.length_map, List.length_append, List.length_cons, List.length_nil, List.map_cons, List.map_nil, List.sum_cons, List.sum_nil, len_app, rng_length, ll_0, ll_1, ll_2, ll_3, ll_4, ll_5, ll_6, ll_7, ll_8, ll_9, ll_10, ll_11, ll_12, ll_13, ll_14, ll_15, ll_16, ll_17, ll_18, ll_19, ll_20, ll_21, ll_22, ll_23, ll_24, ll_25, ll_26, ll_27, ll_28, ll_29, ll_30, ll_31, ll_32, ll_33, ll_34])
/-! ### names -/
def low (c : Nat) : Bool := decide (97 ≤ c) && decide (c ≤ 122)
def nameOk (z : Str) : Bool := decide (1 ≤ z.length) && decide (z.length ≤ 8) && z.cps.toList.all low
/-! ### names drawn -/
theorem nameOk_iff {z : Str} : nameOk z = true ↔ (1 ≤ (cds z).length ∧ (cds z).length ≤ 8) ∧ ∀ c ∈ cds z, low c = true := by
  unfold nameOk
  rw [cds_len]
  simp only [Bool.and_eq_true, decide_eq_true_eq, List.all_eq_true]
/-- what a drawn list of names is -/
structure NamesOk (names : List Str) : Prop where
  ok : ∀ z ∈ names, nameOk z = true
  nd : names.Nodup
/-! ### machines drawn -/
/-- a machine, by its parts -/
structure MachP (b : Int) (names : List Str) (h al mo c : Int) : Prop where
  b1 : 1 ≤ b
  b2 : b ≤ 8
  n1 : 1 ≤ names.length
  n2 : names.length ≤ 6
  nm : NamesOk names
  h1 : 0 ≤ h
  h2 : h ≤ 12
  a1 : 1 ≤ al
  a2 : al ≤ 3
  m1 : 1 ≤ mo
  m2 : mo ≤ 3
  c1 : 0 ≤ c
  c2 : c ≤ 2 ^ b.toNat
structure Mach where
  b : Int
  names : List Str
  h : Int
  al : Int
  mo : Int
  c : Int
/-- a machine: its names are a tuple whose methods may be called -/
def Mach.d (M : Mach) : D := .tup [.int M.b, .nt M.names, .int M.h, .int M.al, .int M.mo, .int M.c]
def Mach.ok (M : Mach) : Prop := MachP M.b M.names M.h M.al M.mo M.c
theorem top_le {b : Int} (h1 : 1 ≤ b) (h2 : b ≤ 8) : (2 : Int) ≤ 2 ^ b.toNat ∧ (2 : Int) ^ b.toNat ≤ 256 := by
  have : b = 1 ∨ b = 2 ∨ b = 3 ∨ b = 4 ∨ b = 5 ∨ b = 6 ∨ b = 7 ∨ b = 8 := by omega
  rcases this with rfl | rfl | rfl | rfl | rfl | rfl | rfl | rfl <;> decide
theorem shl_ok {i : Int} (h0 : 0 ≤ i) (h1 : i ≤ 1000) : CShl 1 i := by
  refine ⟨h0, ?_⟩
  have : (Builtin.Int.intBits 1 : Int) = 1 := by decide
  rw [this]
  omega
def Plc.ok (M : Mach) : Plc → Prop
  | .reg x => x ∈ M.names | .hid k => (k : Int) < M.h
def opL : List Str := ["add", "sub", "and", "or", "xor", "less", "same"]
def Ord.ok (M : Mach) : Ord → Prop
  | .alu op to a b => op ∈ opL ∧ to.ok M ∧ a.ok M ∧ b.ok M
  | .move to a => to.ok M ∧ a.ok M
  | .put to w => to.ok M ∧ (w : Int) < 2 ^ M.b.toNat
  | .load to a => to.ok M ∧ a.ok M
  | .store to a => to.ok M ∧ a.ok M
end K68


set_option Elab.async false
set_option linter.all false
set_option maxRecDepth 100000
set_option maxHeartbeats 4000000
set_option autoImplicit false
namespace K68
open PySem PySem.Spec PyProof.Rows L2 DL
local macro_rules | `(tactic| walk_at "d") => `(tactic| dsimp only [dSeq, dNext, dIfS, dRet, dRetN, dAsg, dName, dVar, dC, dOp, dUn, dChain, dB, dAnd, dOr, dNot, dAndV, dOrV, dNotV, dIf, dNil, dCons, dTup, dLst, newL, dCallB, dCall, dCallK, dDrop, dAug, dAugS, dSub, dM, dM0, dSlice, dNoPart, dPart, dLc, dYes, dFor, dIter, dRng1, dEnum, dZipM, srcD, dStar, dInK, dIxK, dLenSet, dRev,
  startD, wipeD, setAll, dNames, List.map_cons, List.map_nil, List.length_cons, List.length_nil, List.replicate, List.cons_append, List.nil_append, List.append_nil, List.getElem?_cons_zero, List.getElem?_cons_succ, List.set_cons_zero, List.set_cons_succ, List.map, Nat.zero_add, Nat.reduceAdd, Nat.reduceSub, Nat.sub_self, Nat.succ_sub_succ_eq_sub])
local macro_rules | `(tactic| walk_at "o") => `(tactic| simp only [dAdd_ii, dAdd_ss, dAdd_tt, dAdd_ll, dMinus_ii, dMul_ii, dMod_ii, dFdiv_ii, dPow_ii, dShl_ii, dNeg_i, dIadd_ii, dLt_ii, dLe_ii, dGt_ii, dGe_ii, dEq_ii, dNe_ii, dEq_ss, dNe_ss, dEq_bb, dNe_bb, dIs_n, dIsNot_n, dMax2_ii, dMin2_ii, dTuple_t, dTuple_l, dList_t, dList_l, dIx_t, dIx_l, dIx_s, dSl_t, dSl_l, dSl_s, newL_f, len_tup, len_lst])
local macro_rules | `(tactic| walk_at "w") => `(tactic| dsimp only [x_var, x_c, x_op, x_un, x_b, x_and, x_or, x_not, x_chain, x_andV, x_orV, x_notV, x_if, x_nil, x_cons, x_tup, x_lst0, x_lst1, x_callB, x_call, x_callK, x_next, x_seq, x_break, x_cont, x_drop, x_ret, x_ifS, x_asg, x_name, x_names, x_sub, x_aug, x_augS, x_for, x_lc0, x_lc1, x_yes, x_noPart, x_part, x_slice, x_iter, it_t, it_l, it_n, it_s, it_r, x_rng1, x_enum, x_rev, x_m, x_m0, x_mX, x_zip, x_star_t, x_star_l, x_lenSet, x_forgo0, x_lcgo0, x_while, x_par, x_sortK,
  br_t, br_f, isB_bl, isI_int, isN_some, slo_some, atL_lst, ix_t, ix_l, ix_n,
  dAdd_ii, dAdd_ss, dAdd_tt, dAdd_ll, dMinus_ii, dMul_ii, dMod_ii, dFdiv_ii, dPow_ii, dShl_ii, dNeg_i, dIadd_ii, dLt_ii, dLe_ii, dGt_ii, dGe_ii, ltE_ii, ltE_ss, srcD, isi_i, isi_s, isi_b, isi_n, isi_t, isi_nt, isi_l, isi2_i, isi2_s, isi2_b, isi2_n, isi2_t, isi2_nt, isi2_l, inon_n, inon_i, inon_s, inon_b, inon_t, inon_l, inon_r, dEq_ii, dNe_ii, dEq_ss, dNe_ss, dEq_bb, dNe_bb, dIs_n, dIsNot_n, dMax2_ii, dMin2_ii, dTuple_t, dTuple_l, dList_t, dList_l, dSl_t, dSl_l, dSl_s, newL_f, newL_t, app_r, int_b, int_i, strI_i, strX_i, strX_s,
  startD, wipeD, setAll, permL, List.filterMap, List.map_cons, List.map_nil, List.length_cons, List.length_nil, List.replicate, List.cons_append, List.nil_append, List.append_nil, List.getElem?_cons_zero, List.getElem?_cons_succ, List.set_cons_zero, List.set_cons_succ, List.map, Nat.zero_add, Nat.reduceAdd, Nat.reduceSub, Nat.sub_self, Nat.succ_sub_succ_eq_sub])
local macro_rules | `(tactic| walk_at "v") => `(tactic| simp only [ofString_inj, String.reduceEq, at_0, at_1, at_2, at_3, at_4, at_5, isN_some, isBB_bl, isB_bl, br_t, br_f, br_not, br_and, br_or, br_dec, ix_r, len_tup, len_lst, len_nt, ltE_key, gup_gup, gup_same, starD_one, cut1, cut2, kt1, kt2, kt3, kt4, kt5, kt6, isTy, String.reduceBEq, Bool.or_false, Bool.false_or, Bool.true_or, Bool.or_true, Bool.and_false, Bool.false_and, Bool.true_and, Bool.and_true, Bool.not_true, Bool.not_false, decide_true, decide_false, eq_self_iff_true, Bool.false_eq_true, Int.reduceAdd, Int.add_zero, if_true, if_false, true_and, and_true])
local macro_rules | `(tactic| walk_at "side") => `(tactic| first | with_reducible assumption | omega | exact mty_up | exact True.intro | (simp only [List.mem_cons, ofString_inj, String.reduceEq, true_or, or_true, List.length_map]; done) | with_reducible exact (rfl : (_ : Nat) = _) | exact (rfl : (_ : Option String) = _) | (refine small_line ?_; omega) | (walk_at "ll"; first | omega | (refine small_line ?_; omega) | fail) | (exact log_small (by omega)) | fail)
local macro_rules | `(tactic| walk_at "x") => `(tactic| fail)
local macro_rules | `(tactic| walk_at "go") => `(tactic| repeat' (first | dsimp only [x_var, x_c, x_op, x_un, x_b, x_and, x_or, x_not, x_chain, x_andV, x_orV, x_notV, x_if, x_nil, x_cons, x_tup, x_lst0, x_lst1, x_callB, x_call, x_callK, x_next, x_seq, x_break, x_cont, x_drop, x_ret, x_ifS, x_asg, x_name, x_names, x_sub, x_aug, x_augS, x_for, x_lc0, x_lc1, x_yes, x_noPart, x_part, x_slice, x_iter, it_t, it_l, it_n, it_s, it_r, x_rng1, x_enum, x_rev, x_m, x_m0, x_mX, x_zip, x_star_t, x_star_l, x_lenSet, x_forgo0, x_lcgo0, x_while, x_par, x_sortK, br_t, br_f, isB_bl, isI_int, isN_some, slo_some, atL_lst, ix_t, ix_l, ix_n, dAdd_ii, dAdd_ss, dAdd_tt, dAdd_ll, dMinus_ii, dMul_ii, dMod_ii, dFdiv_ii, dPow_ii, dShl_ii, dNeg_i, dIadd_ii, dLt_ii, dLe_ii, dGt_ii, dGe_ii, ltE_ii, ltE_ss, srcD, isi_i, isi_s, isi_b, isi_n, isi_t, isi_nt, isi_l, isi2_i, isi2_s, isi2_b, isi2_n, isi2_t, isi2_nt, isi2_l, inon_n, inon_i, inon_s, inon_b, inon_t, inon_l, inon_r, dEq_ii, dNe_ii, dEq_ss, dNe_ss, dEq_bb, dNe_bb, dIs_n, dIsNot_n, dMax2_ii, dMin2_ii, dTuple_t, dTuple_l, dList_t, dList_l, dSl_t, dSl_l, dSl_s, newL_f, newL_t, app_r, int_b, int_i, strI_i, strX_i, strX_s, startD, wipeD, setAll, permL, List.filterMap, List.map_cons, List.map_nil, List.length_cons, List.length_nil, List.replicate, List.cons_append, List.nil_append, List.append_nil, List.getElem?_cons_zero, List.getElem?_cons_succ, List.set_cons_zero, List.set_cons_succ, List.map, Nat.zero_add, Nat.reduceAdd, Nat.reduceSub, Nat.sub_self, Nat.succ_sub_succ_eq_sub] | simp only [ofString_inj, String.reduceEq, at_0, at_1, at_2, at_3, at_4, at_5, isN_some, isBB_bl, isB_bl, br_t, br_f, br_not, br_and, br_or, br_dec, ix_r, len_tup, len_lst, len_nt, ltE_key, gup_gup, gup_same, starD_one, cut1, cut2, kt1, kt2, kt3, kt4, kt5, kt6, isTy, String.reduceBEq, Bool.or_false, Bool.false_or, Bool.true_or, Bool.or_true, Bool.and_false, Bool.false_and, Bool.true_and, Bool.and_true, Bool.not_true, Bool.not_false, decide_true, decide_false, eq_self_iff_true, Bool.false_eq_true, Int.reduceAdd, Int.add_zero, if_true, if_false, true_and, and_true] | walk_at "x" | with_reducible refine kont_go ?_ | with_reducible refine rt_sub (by assumption) ?_ | with_reducible refine rt_lst (by assumption) ?_ | with_reducible refine rt_drop (by assumption) ?_ | with_reducible refine rt_keep (by assumption) (by assumption) ?_ | with_reducible refine rt_same ?_ | (refine fun (p : Addr) (_ : _ = none) => ?_) | refine join_gor gup_same rfl (by walk_at "side") ?_ | with_reducible refine lc_cons ?_ | with_reducible refine for_cons ?_ | refine join_go rfl (by walk_at "side") ?_ | refine And.intro (by first | with_reducible assumption | omega | exact mty_up | exact True.intro | (simp only [List.mem_cons, ofString_inj, String.reduceEq, true_or, or_true, List.length_map]; done) | with_reducible exact (rfl : (_ : Nat) = _) | exact (rfl : (_ : Option String) = _) | (refine small_line ?_; omega) | (walk_at "ll"; first | omega | (refine small_line ?_; omega) | fail) | (exact log_small (by omega)) | fail) ?_ | fail))
local macro_rules | `(tactic| walk_at "ll") => `(tactic| simp only [List.length_map, List.length_append, List.length_cons, List.length_nil, List.map_cons, List.map_nil, List.sum_cons, List.sum_nil, len_app, rng_length, ll_0, ll_1, ll_2, ll_3, ll_4, ll_5, ll_6, ll_7, ll_8, ll_9, ll_10, ll_11, ll_12, ll_13, ll_14, ll_15, ll_16, ll_17, ll_18, ll_19, ll_20, ll_21, ll_22, ll_23, ll_24, ll_25, ll_26, ll_27, ll_28, ll_29, ll_30, ll_31, ll_32, ll_33, ll_34])
theorem eqs_cons {x y : D} {xs ys : List D} : eqDs (x :: xs) (y :: ys) = (eqD x y && eqDs xs ys) := by simp only [eqDs]
theorem eqs_nil : eqDs [] [] = true := by simp only [eqDs]
theorem eq_tt {xs ys : List D} : eqD (.tup xs) (.tup ys) = eqDs xs ys := by simp only [eqD]
theorem eq_i {x y : Int} : eqD (.int x) (.int y) = decide (x = y) := by simp only [eqD]; rfl
theorem name_py {z : Str} (h : nameOk z = true) : pyD (.str z) = true := by
  have := (nameOk_iff.mp h).2
  simp only [pyD, List.all_eq_true, decide_eq_true_eq]
  intro c hc
  have := this c hc
  simp only [low, Bool.and_eq_true, decide_eq_true_eq] at this
  omega
inductive Prt where
  | plc (p : Plc) | num (w : Nat) | wrd (z : Str)
def Prt.d : Prt → D | .plc p => p.d | .num w => .int w | .wrd z => .str z
def Prt.txt : Prt → Str | .plc p => p.txt | .num w => toString (w : Int) | .wrd z => z
def Ord.kind : Ord → Str
  | .alu _ _ _ _ => "alu" | .move _ _ => "move" | .put _ _ => "put" | .load _ _ => "load" | .store _ _ => "store"
def Ord.parts : Ord → List Prt
  | .alu op to a b => [.wrd op, .plc to, .plc a, .plc b] | .move to a => [.plc to, .plc a] | .put to w => [.plc to, .num w] | .load to a => [.plc to, .plc a] | .store to a => [.plc to, .plc a]
theorem Ord.d_eq (o : Ord) : o.d = .tup (.str o.kind :: o.parts.map Prt.d) := by cases o <;> rfl
/-- where an order writes -/
def Ord.dst : Ord → Option Plc
  | .alu _ to _ _ => some to | .move to _ => some to | .put to _ => some to | .load to _ => some to | .store _ _ => none
theorem dst_ok {M : Mach} {o : Ord} {pl : Plc} (e : o.dst = some pl) (h : o.ok M) : pl.ok M := by
  cases o <;> cases e <;> first | exact h.1 | exact h.2.1
/-- the places that an order writes -/
def Ord.to : Ord → List Plc
  | .alu _ to _ _ => [to] | .move to _ => [to] | .put to _ => [to] | .load to _ => [to] | .store _ _ => []
def sp_place_written : DSp := fun ds G R => ∃ o : Ord, ds = [o.d] ∧ R (match o.to with | [p] => p.d | _ => .non) G
theorem ok_place_written {P : Program} {w : World} {K : PySem.W.Frag} {mg : Str → Option Value} {base : Heap} {a : Ad} (T : Tx w K mg a) : FnD P w K mg base 1 a.f_place_written a.fd_place_written ["order"] sp_place_written := by
  refine fun_okD T.F_place_written sc_place_written (fun ds G R h => ?_) (fun cdv A outer s H hr => ⟨_, (qss_cons (qs_if (qt_cmp (od_eq hr.units) (qe_ix xd_ix (qv 0) qe_int (fun _ _ => rfl)) qe_str (nomark _))
      (qss_one (qs_ret qe_non))
      qss_nil)
      (qss_one (qs_ret (qe_ifExp (qt_cmp (od_eq hr.units) (qe_ix xd_ix (qv 0) qe_int (fun _ _ => rfl)) qe_str (nomark _)) (qe_ix xd_ix (qv 0) qe_int (fun _ _ => rfl)) (qe_ix xd_ix (qv 0) qe_int (fun _ _ => rfl)))))), fun ds G R h => ?_⟩)
  · obtain ⟨o, rfl, _⟩ := h; rfl
  · obtain ⟨o, rfl, h⟩ := h
    cases o <;> (dsimp only [Ord.d]; walk_at "go"; exact h)
/-! ### states -/
structure Wld where
  vis : List Int
  hid : List Int
  mem : List Int
def intsD (l : List Int) : D := .tup (l.map .int)
def Wld.d (W : Wld) : D := .tup [intsD W.vis, intsD W.hid, intsD W.mem]
def wordOk (M : Mach) (z : Int) : Prop := 0 ≤ z ∧ z < 2 ^ M.b.toNat
structure Wld.ok (M : Mach) (W : Wld) : Prop where
  lv : W.vis.length = M.names.length
  lh : (W.hid.length : Int) = M.h
  lm : (W.mem.length : Int) = M.c
  wv : ∀ z ∈ W.vis, wordOk M z
  wh : ∀ z ∈ W.hid, wordOk M z
  wm : ∀ z ∈ W.mem, wordOk M z
/-- the word at a place -/
def Wld.at (M : Mach) (W : Wld) : Plc → Int
  | .reg x => W.vis.getD (M.names.idxOf x) 0
  | .hid k => W.hid.getD k 0
theorem atI_int {l : List Int} {k : Nat} (h : k < l.length) : atI (l.map D.int) (k : Int) = some (.int (l.getD k 0)) := by
  refine atI_nat ?_
  rw [List.getElem?_map, List.getElem?_eq_getElem h, List.getD_eq_getElem?_getD, List.getElem?_eq_getElem h]
  rfl
theorem getD_mem {l : List Int} {k : Nat} (h : k < l.length) : l.getD k 0 ∈ l := by
  rw [List.getD_eq_getElem?_getD, List.getElem?_eq_getElem h]
  exact List.getElem_mem h
theorem Wld.at_ok {M : Mach} {W : Wld} (hW : W.ok M) {p : Plc} (hp : p.ok M) : wordOk M (W.at M p) := by
  cases p with
  | reg x => exact hW.wv _ (getD_mem (by rw [hW.lv]; exact List.idxOf_lt_length_of_mem hp))
  | hid k => exact hW.wh _ (getD_mem (by have := hW.lh; have : (k : Int) < M.h := hp; omega))
def Wld.set (M : Mach) (W : Wld) (p : Plc) (z : Int) : Wld := match p with
  | .reg x => { W with vis := W.vis.set (M.names.idxOf x) z }
  | .hid k => { W with hid := W.hid.set k z }
theorem set_ok {P : Int → Prop} {l : List Int} {k : Nat} {z : Int} (h : ∀ x ∈ l, P x) (hz : P z) : ∀ x ∈ l.set k z, P x := fun x hx => by
  rcases List.mem_or_eq_of_mem_set hx with hx | hx
  · exact h x hx
  · rw [hx]; exact hz
theorem Wld.set_ok {M : Mach} {W : Wld} (hW : W.ok M) {p : Plc} {z : Int} (hz : wordOk M z) : (W.set M p z).ok M := by
  cases p with
  | reg x => exact ⟨by simp [Wld.set, hW.lv], hW.lh, hW.lm, _root_.K68.set_ok hW.wv hz, hW.wh, hW.wm⟩
  | hid k => exact ⟨hW.lv, by simp [Wld.set, hW.lh], hW.lm, hW.wv, _root_.K68.set_ok hW.wh hz, hW.wm⟩
/-! ### the ops -/
def opF (op : Str) (x y : Int) : Int :=
  if op = "add" then x + y else if op = "sub" then x - y else if op = "and" then Builtin.bitAnd x y else if op = "or" then Builtin.bitOr x y else if op = "xor" then Builtin.bitXor x y
  else if op = "less" then (if decide (x < y) = true then 1 else 0) else (if decide (x = y) = true then 1 else 0)
def sp_two (f : Int → Int → Int) : DSp := fun ds G R => ∃ x y : Int, ds = [.int x, .int y] ∧ R (.int (f x y)) G
def sp_both_added : DSp := sp_two fun x y => x + y
def sp_taken_off : DSp := sp_two fun x y => x - y
def sp_bits_of_both : DSp := sp_two Builtin.bitAnd
def sp_bits_of_one : DSp := sp_two Builtin.bitOr
def sp_bits_unlike : DSp := sp_two Builtin.bitXor
def sp_is_less : DSp := sp_two fun x y => if decide (x < y) = true then 1 else 0
def sp_is_same : DSp := sp_two fun x y => if decide (x = y) = true then 1 else 0
theorem band_ii {i j : Int} {G : Gp} {R : DK} : dBand (.int i) (.int j) G R = R (.int (Builtin.bitAnd i j)) G := rfl
theorem bor_ii {i j : Int} {G : Gp} {R : DK} : dBor (.int i) (.int j) G R = R (.int (Builtin.bitOr i j)) G := rfl
theorem bxor_ii {i j : Int} {G : Gp} {R : DK} : dBxor (.int i) (.int j) G R = R (.int (Builtin.bitXor i j)) G := rfl
local macro_rules | `(tactic| walk_at "x") => `(tactic| first | simp only [band_ii, bor_ii, bxor_ii] | fail)
theorem ok_both_added {P : Program} {w : World} {K : PySem.W.Frag} {mg : Str → Option Value} {base : Heap} {a : Ad} (T : Tx w K mg a) : FnD P w K mg base 1 a.f_both_added a.fd_both_added ["one", "other"] sp_both_added := by
  refine fun_okD T.F_both_added sc_both_added (fun ds G R h => ?_) (fun cdv A outer s H hr => ⟨_, (qss_one (qs_ret (qe_op (od_add false) (qv 0) (qv 1)))), fun ds G R h => ?_⟩)
  · obtain ⟨x, y, rfl, _⟩ := h; rfl
  · obtain ⟨x, y, rfl, h⟩ := h; walk_at "go"; exact h
theorem ok_taken_off {P : Program} {w : World} {K : PySem.W.Frag} {mg : Str → Option Value} {base : Heap} {a : Ad} (T : Tx w K mg a) : FnD P w K mg base 1 a.f_taken_off a.fd_taken_off ["one", "other"] sp_taken_off := by
  refine fun_okD T.F_taken_off sc_taken_off (fun ds G R h => ?_) (fun cdv A outer s H hr => ⟨_, (qss_one (qs_ret (qe_op od_sub (qv 0) (qv 1)))), fun ds G R h => ?_⟩)
  · obtain ⟨x, y, rfl, _⟩ := h; rfl
  · obtain ⟨x, y, rfl, h⟩ := h; walk_at "go"; exact h
theorem ok_bits_of_both {P : Program} {w : World} {K : PySem.W.Frag} {mg : Str → Option Value} {base : Heap} {a : Ad} (T : Tx w K mg a) : FnD P w K mg base 1 a.f_bits_of_both a.fd_bits_of_both ["one", "other"] sp_bits_of_both := by
  refine fun_okD T.F_bits_of_both sc_bits_of_both (fun ds G R h => ?_) (fun cdv A outer s H hr => ⟨_, (qss_one (qs_ret (qe_op od_band (qv 0) (qv 1)))), fun ds G R h => ?_⟩)
  · obtain ⟨x, y, rfl, _⟩ := h; rfl
  · obtain ⟨x, y, rfl, h⟩ := h; walk_at "go"; exact h
theorem ok_bits_of_one {P : Program} {w : World} {K : PySem.W.Frag} {mg : Str → Option Value} {base : Heap} {a : Ad} (T : Tx w K mg a) : FnD P w K mg base 1 a.f_bits_of_one a.fd_bits_of_one ["one", "other"] sp_bits_of_one := by
  refine fun_okD T.F_bits_of_one sc_bits_of_one (fun ds G R h => ?_) (fun cdv A outer s H hr => ⟨_, (qss_one (qs_ret (qe_op od_bor (qv 0) (qv 1)))), fun ds G R h => ?_⟩)
  · obtain ⟨x, y, rfl, _⟩ := h; rfl
  · obtain ⟨x, y, rfl, h⟩ := h; walk_at "go"; exact h
theorem ok_bits_unlike {P : Program} {w : World} {K : PySem.W.Frag} {mg : Str → Option Value} {base : Heap} {a : Ad} (T : Tx w K mg a) : FnD P w K mg base 1 a.f_bits_unlike a.fd_bits_unlike ["one", "other"] sp_bits_unlike := by
  refine fun_okD T.F_bits_unlike sc_bits_unlike (fun ds G R h => ?_) (fun cdv A outer s H hr => ⟨_, (qss_one (qs_ret (qe_op od_bxor (qv 0) (qv 1)))), fun ds G R h => ?_⟩)
  · obtain ⟨x, y, rfl, _⟩ := h; rfl
  · obtain ⟨x, y, rfl, h⟩ := h; walk_at "go"; exact h
theorem ok_is_less {P : Program} {w : World} {K : PySem.W.Frag} {mg : Str → Option Value} {base : Heap} {a : Ad} (T : Tx w K mg a) : FnD P w K mg base 1 a.f_is_less a.fd_is_less ["one", "other"] sp_is_less := by
  refine fun_okD T.F_is_less sc_is_less (fun ds G R h => ?_) (fun cdv A outer s H hr => ⟨_, (qss_one (qs_ret (qe_callTy cd_int rfl T.n_int (by decide +kernel) (qa_cons (qe_cmp (od_ltE (room100 hr)) (qv 0) (qv 1) (nomark _)) qa_nil)))), fun ds G R h => ?_⟩)
  · obtain ⟨x, y, rfl, _⟩ := h; rfl
  · obtain ⟨x, y, rfl, h⟩ := h; walk_at "go"; exact h
theorem ok_is_same {P : Program} {w : World} {K : PySem.W.Frag} {mg : Str → Option Value} {base : Heap} {a : Ad} (T : Tx w K mg a) : FnD P w K mg base 1 a.f_is_same a.fd_is_same ["one", "other"] sp_is_same := by
  refine fun_okD T.F_is_same sc_is_same (fun ds G R h => ?_) (fun cdv A outer s H hr => ⟨_, (qss_one (qs_ret (qe_callTy cd_int rfl T.n_int (by decide +kernel) (qa_cons (qe_cmp (od_eq hr.units) (qv 0) (qv 1) (nomark _)) qa_nil)))), fun ds G R h => ?_⟩)
  · obtain ⟨x, y, rfl, _⟩ := h; rfl
  · obtain ⟨x, y, rfl, h⟩ := h; walk_at "go"; exact h
theorem fun_ne {K : PySem.W.Frag} {x x' : Str} {st st' : Stmt} {f f' : Addr} {fd fd' : FuncData} (F : Fun K x x st f fd) (F' : Fun K x' x' st' f' fd') (h : x ≠ x') : f ≠ f' := by
  rintro rfl
  obtain ⟨_, _, _, _, _, _, _, _, _, rfl, l, _⟩ := F.ex
  obtain ⟨_, _, _, _, _, _, _, _, _, rfl, l', _⟩ := F'.ex
  rw [l] at l'
  have := congrArg (fun o : Option Obj => match o with | some ⟨_, _, .func fd, _⟩ => fd.name | _ => x) l'
  exact h this
/-- what the def at an address does -/
def opS (a : Ad) : Addr → Option DSp := fun f => if f = a.f_both_added then some sp_both_added else if f = a.f_taken_off then some sp_taken_off else if f = a.f_bits_of_both then some sp_bits_of_both else if f = a.f_bits_of_one then some sp_bits_of_one
  else if f = a.f_bits_unlike then some sp_bits_unlike else if f = a.f_is_less then some sp_is_less else if f = a.f_is_same then some sp_is_same else none
theorem opA {P : Program} {w : World} {K : PySem.W.Frag} {mg : Str → Option Value} {base : Heap} {a : Ad} (T : Tx w K mg a) : ∀ f sp, opS a f = some sp → Held P w K mg base 1 f (upSp K sp) := by
  intro f sp h
  unfold opS at h
  split at h
  · rename_i e; cases h; subst e; exact ⟨_, _, ok_both_added T, T.F_both_added.kp, T.b_both_added⟩
  split at h
  · rename_i e; cases h; subst e; exact ⟨_, _, ok_taken_off T, T.F_taken_off.kp, T.b_taken_off⟩
  split at h
  · rename_i e; cases h; subst e; exact ⟨_, _, ok_bits_of_both T, T.F_bits_of_both.kp, T.b_bits_of_both⟩
  split at h
  · rename_i e; cases h; subst e; exact ⟨_, _, ok_bits_of_one T, T.F_bits_of_one.kp, T.b_bits_of_one⟩
  split at h
  · rename_i e; cases h; subst e; exact ⟨_, _, ok_bits_unlike T, T.F_bits_unlike.kp, T.b_bits_unlike⟩
  split at h
  · rename_i e; cases h; subst e; exact ⟨_, _, ok_is_less T, T.F_is_less.kp, T.b_is_less⟩
  split at h
  · rename_i e; cases h; subst e; exact ⟨_, _, ok_is_same T, T.F_is_same.kp, T.b_is_same⟩
  · cases h
theorem op_look {w : World} {K : PySem.W.Frag} {mg : Str → Option Value} {a : Ad} (T : Tx w K mg a) {op : Str} (h : op ∈ opL) : ∃ f, (kv_OPS a).lookup op = some (.ref f) ∧ opS a f = some (sp_two (opF op)) := by
  have n12 := fun_ne T.F_taken_off T.F_both_added (by decide +kernel)
  have n13 := fun_ne T.F_bits_of_both T.F_both_added (by decide +kernel)
  have n14 := fun_ne T.F_bits_of_one T.F_both_added (by decide +kernel)
  have n15 := fun_ne T.F_bits_unlike T.F_both_added (by decide +kernel)
  have n16 := fun_ne T.F_is_less T.F_both_added (by decide +kernel)
  have n17 := fun_ne T.F_is_same T.F_both_added (by decide +kernel)
  have n23 := fun_ne T.F_bits_of_both T.F_taken_off (by decide +kernel)
  have n24 := fun_ne T.F_bits_of_one T.F_taken_off (by decide +kernel)
  have n25 := fun_ne T.F_bits_unlike T.F_taken_off (by decide +kernel)
  have n26 := fun_ne T.F_is_less T.F_taken_off (by decide +kernel)
  have n27 := fun_ne T.F_is_same T.F_taken_off (by decide +kernel)
  have n34 := fun_ne T.F_bits_of_one T.F_bits_of_both (by decide +kernel)
  have n35 := fun_ne T.F_bits_unlike T.F_bits_of_both (by decide +kernel)
  have n36 := fun_ne T.F_is_less T.F_bits_of_both (by decide +kernel)
  have n37 := fun_ne T.F_is_same T.F_bits_of_both (by decide +kernel)
  have n45 := fun_ne T.F_bits_unlike T.F_bits_of_one (by decide +kernel)
  have n46 := fun_ne T.F_is_less T.F_bits_of_one (by decide +kernel)
  have n47 := fun_ne T.F_is_same T.F_bits_of_one (by decide +kernel)
  have n56 := fun_ne T.F_is_less T.F_bits_unlike (by decide +kernel)
  have n57 := fun_ne T.F_is_same T.F_bits_unlike (by decide +kernel)
  have n67 := fun_ne T.F_is_same T.F_is_less (by decide +kernel)
  have lk : ∀ (l : List (Str × D)) (k z : Str) (v : D), ((k, v) :: l).lookup z = if z = k then some v else l.lookup z := fun l k z v => by
    rw [List.lookup_cons]
    by_cases e : z = k
    · subst e; simp
    · rw [show (z == k) = false by simpa using e, if_neg e]
  simp only [opL, List.mem_cons, List.not_mem_nil, or_false] at h
  rcases h with rfl | rfl | rfl | rfl | rfl | rfl | rfl
  · refine ⟨a.f_both_added, by simp only [kv_OPS, lk, ofString_inj, String.reduceEq, if_true, if_false], ?_⟩
    unfold opS; rw [if_pos rfl]; rfl
  · refine ⟨a.f_taken_off, by simp only [kv_OPS, lk, ofString_inj, String.reduceEq, if_true, if_false], ?_⟩
    unfold opS; rw [if_neg n12, if_pos rfl]; rfl
  · refine ⟨a.f_bits_of_both, by simp only [kv_OPS, lk, ofString_inj, String.reduceEq, if_true, if_false], ?_⟩
    unfold opS; rw [if_neg n13, if_neg n23, if_pos rfl]; rfl
  · refine ⟨a.f_bits_of_one, by simp only [kv_OPS, lk, ofString_inj, String.reduceEq, if_true, if_false], ?_⟩
    unfold opS; rw [if_neg n14, if_neg n24, if_neg n34, if_pos rfl]; rfl
  · refine ⟨a.f_bits_unlike, by simp only [kv_OPS, lk, ofString_inj, String.reduceEq, if_true, if_false], ?_⟩
    unfold opS; rw [if_neg n15, if_neg n25, if_neg n35, if_neg n45, if_pos rfl]; rfl
  · refine ⟨a.f_is_less, by simp only [kv_OPS, lk, ofString_inj, String.reduceEq, if_true, if_false], ?_⟩
    unfold opS; rw [if_neg n16, if_neg n26, if_neg n36, if_neg n46, if_neg n56, if_pos rfl]; rfl
  · refine ⟨a.f_is_same, by simp only [kv_OPS, lk, ofString_inj, String.reduceEq, if_true, if_false], ?_⟩
    unfold opS; rw [if_neg n17, if_neg n27, if_neg n37, if_neg n47, if_neg n57, if_neg n67, if_pos rfl]; rfl
def reckI (M : Mach) (op : Str) (x y : Int) : Int := opF op x y % 2 ^ M.b.toNat
theorem reck_ok {M : Mach} (hM : M.ok) {op : Str} {x y : Int} : wordOk M (reckI M op x y) := by
  have := top_le hM.b1 hM.b2
  exact ⟨Int.emod_nonneg _ (by omega), Int.emod_lt_of_pos _ (by omega)⟩
def sp_reckoned : DSp := fun ds G R => ∃ (M : Mach) (op : Str) (x y : Int), ds = [M.d, .str op, .int x, .int y] ∧ M.ok ∧ op ∈ opL ∧ R (.int (reckI M op x y)) G
theorem callA_go {i : Nat} {S : Addr → Option DSp} {t : DA} {σ : Sd} {G : Gp} {R : DK} {f : Addr} {sp : DSp} (e1 : σ[i]? = some (some (.ref f))) (e2 : S f = some sp) (k : t σ G fun ds G1 => sp ds G1 R) : dCallA i S t σ G R := by
  unfold dCallA
  rw [e1]
  dsimp only
  rw [e2]
  exact k
theorem ok_reckoned {P : Program} {w : World} {K : PySem.W.Frag} {mg : Str → Option Value} {base : Heap} {a : Ad} (T : Tx w K mg a) : FnD P w K mg base 2 a.f_reckoned a.fd_reckoned ["machine", "op", "one", "other"] sp_reckoned := by
  refine fun_okD T.F_reckoned sc_reckoned (fun ds G R h => ?_) (fun cdv A outer s H hr => ⟨_, (qss_cons (qs_set (i := 4) sc_reckoned.nd rfl (.inl rfl) (qe_ix (xd_kd T.d_OPS) (qe_globD rfl T.c_OPS) (qv 1) (fun _ _ => rfl)))
      (qss_one (qs_ret (qe_op od_mod (qe_callA (i := 4) (S := opS a) (opA T) (hr.mono (by omega)) rfl (.inl rfl) (qa_cons (qv 2) (qa_cons (qv 3) qa_nil))) (qe_op od_shl qe_int (qe_ix xd_ix (qv 0) qe_int (fun _ _ => rfl))))))), fun ds G R h => ?_⟩)
  · obtain ⟨M, op, x, y, rfl, _⟩ := h; rfl
  · obtain ⟨M, op, x, y, rfl, hM, hop, h⟩ := h
    obtain ⟨f, e1, e2⟩ := op_look T hop
    have htop := top_le hM.b1 hM.b2
    have hsh : CShl 1 M.b := shl_ok (by have := hM.b1; omega) (by have := hM.b2; omega)
    dsimp only [Mach.d]
    walk_at "go"
    rw [e1]
    walk_at "go"
    refine callA_go rfl e2 ?_
    walk_at "go"
    refine ⟨x, y, rfl, ?_⟩
    walk_at "go"
    simp only [Int.one_mul]
    exact h
theorem go_reckoned {M : Mach} {op : Str} {x y : Int} {G : Gp} {R : DK} (hM : M.ok) (h : op ∈ opL) (k : R (.int (reckI M op x y)) G) : sp_reckoned [M.d, .str op, .int x, .int y] G R := ⟨M, op, x, y, rfl, hM, h, k⟩
def sp_word_at : DSp := fun ds G R => ∃ (M : Mach) (W : Wld) (p : Plc), ds = [M.d, W.d, p.d] ∧ M.ok ∧ W.ok M ∧ p.ok M ∧ R (.int (W.at M p)) G
theorem ixi_go {l : List Int} {k : Nat} {G : Gp} {R : DK} (h : k < l.length) (q : R (.int (l.getD k 0)) G) : dIx (.tup (l.map D.int)) (.int k) G R := by
  rw [ix_t, atI_int h]
  exact q
theorem ok_word_at {P : Program} {w : World} {K : PySem.W.Frag} {mg : Str → Option Value} {base : Heap} {a : Ad} (T : Tx w K mg a) : FnD P w K mg base 1 a.f_word_at a.fd_word_at ["machine", "state", "place"] sp_word_at := by
  refine fun_okD T.F_word_at sc_word_at (fun ds G R h => ?_) (fun cdv A outer s H hr => ⟨_, (qss_cons (qs_asg (qv 1) (qg_of (pg_tup rfl (pgs_cons (pg_name (i := 3) sc_word_at.nd rfl (.inl rfl)) (pgs_cons (pg_name (i := 4) sc_word_at.nd rfl (.inl rfl)) (pgs_cons (pg_name (i := 5) sc_word_at.nd rfl (.inl rfl)) pgs_nil)))) (tg_names (is := [3, 4, 5]) (ws := [3, 4, 5]) (by decide) rfl)))
      (qss_cons (qs_asg (qv 2) (qg_of (pg_tup rfl (pgs_cons (pg_name (i := 6) sc_word_at.nd rfl (.inl rfl)) (pgs_cons (pg_name (i := 7) sc_word_at.nd rfl (.inl rfl)) pgs_nil))) (tg_names (is := [6, 7]) (ws := [6, 7]) (by decide) rfl)))
      (qss_one (qs_ret (qe_ifExp (qt_cmp (od_eq hr.units) (qv 6) qe_str (nomark _)) (qe_ix xd_ix (qv 4) (qv 7) (fun _ _ => rfl)) (qe_ix xd_ix (qv 3) (qe_mX PySem.F.plainAttrs_tuple PySem.F.slot_tuple_index PySem.F.type_tuple_index md_indexT (qe_ix xd_ix (qv 0) qe_int (fun _ _ => rfl)) (qa_cons (qv 7) qa_nil)) (fun _ _ => rfl))))))), fun ds G R h => ?_⟩)
  · obtain ⟨M, W, p, rfl, _⟩ := h; rfl
  · obtain ⟨M, W, p, rfl, hM, hW, hp, h⟩ := h
    dsimp only [Wld.d, intsD]
    cases p with
    | reg x =>
      dsimp only [Plc.d, Mach.d]
      walk_at "go"
      refine ⟨hp, ?_⟩
      refine ixi_go (by rw [hW.lv]; exact List.idxOf_lt_length_of_mem hp) ?_
      walk_at "go"
      exact h
    | hid k =>
      dsimp only [Plc.d]
      walk_at "go"
      rw [atI_int (by have := hW.lh; have : (k : Int) < M.h := hp; omega)]
      walk_at "go"
      exact h
theorem go_word_at {M : Mach} {W : Wld} {p : Plc} {G : Gp} {R : DK} (hM : M.ok) (hW : W.ok M) (hp : p.ok M) (k : R (.int (W.at M p)) G) : sp_word_at [M.d, W.d, p.d] G R := ⟨M, W, p, rfl, hM, hW, hp, k⟩
/-- the cell that an order asks for -/
def Ord.asks (M : Mach) (W : Wld) : Ord → Option Int
  | .load _ a => some (W.at M a) | .store a _ => some (W.at M a) | _ => none
def Ord.made (M : Mach) (W : Wld) : Ord → Int
  | .put _ w => w | .alu op _ a b => reckI M op (W.at M a) (W.at M b) | .move _ a => W.at M a | .load _ a => W.mem.getD (W.at M a).toNat 0 | .store _ b => W.at M b
def sp_word_made : DSp := fun ds G R => ∃ (M : Mach) (W : Wld) (o : Ord), ds = [M.d, W.d, o.d] ∧ M.ok ∧ W.ok M ∧ o.ok M ∧ o.dst ≠ none ∧ (∀ c, o.asks M W = some c → c < M.c) ∧ R (.int (o.made M W)) G
local macro_rules | `(tactic| walk_at "x") => `(tactic| first
  | refine go_word_at (by assumption) (by assumption) (by assumption) ?_
  | refine go_reckoned (by assumption) (by assumption) ?_ | fail)
theorem ok_word_made {P : Program} {w : World} {K : PySem.W.Frag} {mg : Str → Option Value} {base : Heap} {a : Ad} (T : Tx w K mg a) : FnD P w K mg base 3 a.f_word_made a.fd_word_made ["machine", "state", "order"] sp_word_made := by
  refine fun_okD T.F_word_made sc_word_made (fun ds G R h => ?_) (fun cdv A outer s H hr => ⟨_, (qss_cons (qs_if (qt_cmp (od_eq hr.units) (qe_ix xd_ix (qv 2) qe_int (fun _ _ => rfl)) qe_str (nomark _))
      (qss_one (qs_ret (qe_ix xd_ix (qv 2) qe_int (fun _ _ => rfl))))
      qss_nil)
      (qss_cons (qs_if (qt_cmp (od_eq hr.units) (qe_ix xd_ix (qv 2) qe_int (fun _ _ => rfl)) qe_str (nomark _))
      (qss_cons (qs_asg (qv 2) (qg_of (pg_tup rfl (pgs_cons (pg_name (i := 3) sc_word_made.nd rfl (.inl rfl)) (pgs_cons (pg_name (i := 4) sc_word_made.nd rfl (.inl rfl)) (pgs_cons (pg_name (i := 5) sc_word_made.nd rfl (.inl rfl)) (pgs_cons (pg_name (i := 6) sc_word_made.nd rfl (.inl rfl)) (pgs_cons (pg_name (i := 7) sc_word_made.nd rfl (.inl rfl)) pgs_nil)))))) (tg_names (is := [3, 4, 5, 6, 7]) (ws := [3, 4, 5, 6, 7]) (by decide) rfl)))
      (qss_one (qs_ret (qe_call (ok_reckoned T) (hr.mono (by omega)) rfl T.g_reckoned T.F_reckoned.kp T.b_reckoned (qa_cons (qv 0) (qa_cons (qv 4) (qa_cons (qe_call (ok_word_at T) (hr.mono (by omega)) rfl T.g_word_at T.F_word_at.kp T.b_word_at (qa_cons (qv 0) (qa_cons (qv 1) (qa_cons (qv 6) qa_nil)))) (qa_cons (qe_call (ok_word_at T) (hr.mono (by omega)) rfl T.g_word_at T.F_word_at.kp T.b_word_at (qa_cons (qv 0) (qa_cons (qv 1) (qa_cons (qv 7) qa_nil)))) qa_nil))))))))
      qss_nil)
      (qss_cons (qs_set (i := 8) sc_word_made.nd rfl (.inl rfl) (qe_call (ok_word_at T) (hr.mono (by omega)) rfl T.g_word_at T.F_word_at.kp T.b_word_at (qa_cons (qv 0) (qa_cons (qv 1) (qa_cons (qe_ix xd_ix (qv 2) qe_int (fun _ _ => rfl)) qa_nil)))))
      (qss_one (qs_ret (qe_ifExp (qt_cmp (od_eq hr.units) (qe_ix xd_ix (qv 2) qe_int (fun _ _ => rfl)) qe_str (nomark _)) (qe_ix xd_ix (qe_ix xd_ix (qv 1) qe_int (fun _ _ => rfl)) (qv 8) (fun _ _ => rfl)) (qv 8))))))), fun ds G R h => ?_⟩)
  · obtain ⟨M, W, o, rfl, _⟩ := h; rfl
  · obtain ⟨M, W, o, rfl, hM, hW, ho, hd, hc, h⟩ := h
    cases o with
    | alu op to a b =>
      obtain ⟨h1, h2, h3, h4⟩ := ho
      dsimp only [Ord.d]; walk_at "go"; exact h
    | put to w => dsimp only [Ord.d]; walk_at "go"; exact h
    | move to a =>
      obtain ⟨h1, h2⟩ := ho
      dsimp only [Ord.d]; walk_at "go"; exact h
    | load to a =>
      obtain ⟨h1, h2⟩ := ho
      dsimp only [Ord.d]
      walk_at "go"
      dsimp only [Wld.d]
      walk_at "go"
      have hz := Wld.at_ok hW h2
      have hz2 : W.at M a < M.c := hc _ rfl
      have hlm := hW.lm
      obtain ⟨n, en⟩ : ∃ n : Nat, W.at M a = n := ⟨(W.at M a).toNat, by have := hz.1; omega⟩
      have e : Ord.made M W (.load to a) = W.mem.getD n 0 := by show W.mem.getD (W.at M a).toNat 0 = _; rw [en]; rfl
      rw [e] at h
      rw [en]
      dsimp only [intsD]
      refine ixi_go (by omega) ?_
      walk_at "go"
      exact h
    | store a b => exact absurd rfl hd
local macro_rules | `(tactic| walk_at "x") => `(tactic| first
  | dsimp only [x_litIx, x_litGet, dv_nil, dv_cons, List.map_cons, List.map_nil]
  | refine go_word_at (by assumption) (by assumption) (by assumption) ?_ | fail)
def askD (M : Mach) (W : Wld) (o : Ord) : D := match o.asks M W with | some c => .int c | none => .non
def sp_cell_asked : DSp := fun ds G R => ∃ (M : Mach) (W : Wld) (o : Ord), ds = [M.d, W.d, o.d] ∧ M.ok ∧ W.ok M ∧ o.ok M ∧ R (askD M W o) G
theorem ok_cell_asked {P : Program} {w : World} {K : PySem.W.Frag} {mg : Str → Option Value} {base : Heap} {a : Ad} (T : Tx w K mg a) : FnD P w K mg base 2 a.f_cell_asked a.fd_cell_asked ["machine", "state", "order"] sp_cell_asked := by
  refine fun_okD T.F_cell_asked sc_cell_asked (fun ds G R h => ?_) (fun cdv A outer s H hr => ⟨_, (qss_cons (qs_set (i := 3) sc_cell_asked.nd rfl (.inl rfl) (qe_litGet (l := [("load", _), ("store", _)]) (rm1 (room100 hr)) (pps_cons qe_str qe_int (pps_cons qe_str qe_int pps_nil)) (qe_ix xd_ix (qv 2) qe_int (fun _ _ => rfl)) ⟨rfl, rfl, rfl, rfl⟩))
      (qss_one (qs_ret (qe_ifExp (qt_cmp od_is (qv 3) qe_non (nomark _)) qe_non (qe_call (ok_word_at T) (hr.mono (by omega)) rfl T.g_word_at T.F_word_at.kp T.b_word_at (qa_cons (qv 0) (qa_cons (qv 1) (qa_cons (qe_ix xd_ix (qv 2) (qv 3) (fun _ _ => rfl)) qa_nil)))))))), fun ds G R h => ?_⟩)
  · obtain ⟨M, W, o, rfl, _⟩ := h; rfl
  · obtain ⟨M, W, o, rfl, hM, hW, ho, h⟩ := h
    cases o with
    | load to a =>
      obtain ⟨h1, h2⟩ := ho
      dsimp only [Ord.d]
      walk_at "go"
      exact h
    | store a b =>
      obtain ⟨h1, h2⟩ := ho
      dsimp only [Ord.d]
      walk_at "go"
      exact h
    | _ =>
      dsimp only [Ord.d]
      walk_at "go"
      rw [lookD_miss (by simp only [ne_eq, ofString_inj, String.reduceEq, not_false_eq_true]), lookD_miss (by simp only [ne_eq, ofString_inj, String.reduceEq, not_false_eq_true]), lookD_nil, Option.getD_none]
      walk_at "go"
      try rw [show DL.isNon D.non = true from rfl]
      walk_at "go"
      exact h
theorem go_cell_asked {M : Mach} {W : Wld} {o : Ord} {G : Gp} {R : DK} (hM : M.ok) (hW : W.ok M) (ho : o.ok M) (k : R (askD M W o) G) : sp_cell_asked [M.d, W.d, o.d] G R := ⟨M, W, o, rfl, hM, hW, ho, k⟩
/-- the first cell asked for that is none -/
def trapO (M : Mach) (W : Wld) : List Ord → Option Int
  | [] => none
  | o :: os => match o.asks M W with
    | some c => if M.c ≤ c then some c else trapO M W os
    | none => trapO M W os
/-- one order's writing, read from W -/
def Ord.step (M : Mach) (W acc : Wld) (o : Ord) : Wld := match o with
  | .store a b => { acc with mem := acc.mem.set (W.at M a).toNat (W.at M b) }
  | .alu _ to _ _ => acc.set M to (o.made M W)
  | .move to _ => acc.set M to (o.made M W)
  | .put to _ => acc.set M to (o.made M W)
  | .load to _ => acc.set M to (o.made M W)
def doneO (M : Mach) (W : Wld) (os : List Ord) : Wld := os.foldl (Ord.step M W) W
def outD (M : Mach) (W : Wld) (os : List Ord) : D := match trapO M W os with
  | some c => .tup [.str "trap", .int c]
  | none => (doneO M W os).d
theorem made_ok {M : Mach} {W : Wld} (hM : M.ok) (hW : W.ok M) {o : Ord} (ho : o.ok M) (hc : ∀ c, o.asks M W = some c → c < M.c) : wordOk M (o.made M W) := by
  cases o with
  | alu op to a b => exact reck_ok hM
  | move to a => exact Wld.at_ok hW ho.2
  | put to w => exact ⟨by show (0 : Int) ≤ (w : Nat); omega, ho.2⟩
  | load to a =>
    have h1 := Wld.at_ok hW ho.2
    have h2 : W.at M a < M.c := hc _ rfl
    have h3 := hW.lm
    exact hW.wm _ (getD_mem (by have := h1.1; omega))
  | store a b => exact Wld.at_ok hW ho.2
theorem step_ok {M : Mach} {W acc : Wld} (hM : M.ok) (hW : W.ok M) (ha : acc.ok M) {o : Ord} (ho : o.ok M) (hc : ∀ c, o.asks M W = some c → c < M.c) : (o.step M W acc).ok M := by
  have hm := made_ok hM hW ho hc
  cases o with
  | store a b => exact ⟨ha.lv, ha.lh, by simp [Ord.step, ha.lm], ha.wv, ha.wh, set_ok ha.wm hm⟩
  | _ => exact Wld.set_ok ha hm
def sp_row_done : DSp := fun ds G R => ∃ (M : Mach) (W : Wld) (os : List Ord), ds = [M.d, W.d, .tup (os.map Ord.d)] ∧ M.ok ∧ W.ok M ∧ (∀ o ∈ os, o.ok M) ∧ os.length ≤ 1000 ∧ R (outD M W os) G
theorem go_word_made' {M : Mach} {W : Wld} {o : Ord} {G : Gp} {R : DK} (hM : M.ok) (hW : W.ok M) (ho : o.ok M) (hd : o.dst ≠ none) (hc : ∀ c, o.asks M W = some c → c < M.c) (k : R (.int (o.made M W)) G) : sp_word_made [M.d, W.d, .tup (.str o.kind :: o.parts.map Prt.d)] G R := ⟨M, W, o, by rw [Ord.d_eq], hM, hW, ho, hd, hc, k⟩
theorem to_dst {o : Ord} {pl : Plc} (e : o.dst = some pl) : o.to = [pl] := by cases o <;> cases e <;> rfl
theorem go_place_written' {o : Ord} {pl : Plc} {G : Gp} {R : DK} (e : o.dst = some pl) (k : R pl.d G) : sp_place_written [.tup (.str o.kind :: o.parts.map Prt.d)] G R := ⟨o, by rw [Ord.d_eq], by rw [to_dst e]; exact k⟩
theorem lenR {p : Addr} {ds : List D} {G : Gp} {R : DK} (e : G p = some (.lst ds)) (k : R (.int ds.length) G) : dLen [.ref p] G R := by
  unfold dLen
  simp only [seqOf_r e]
  exact k
theorem setI_go {p : Addr} {l : List Int} {k : Nat} {z : Int} {G : Gp} {R : Gp → Prop} (e : G p = some (.lst (l.map D.int))) (h : k < l.length) (q : R (gup G p (.lst ((l.set k z).map D.int)))) : dSetI (.ref p) (.int k) (.int z) G R := by
  have hx : ixN (l.map D.int).length (k : Int) = some k := by
    unfold ixN
    rw [List.length_map, if_pos (by omega), if_pos (by omega)]
    rfl
  unfold dSetI
  simp only [e, hx]
  rw [List.map_set] at q
  exact q
theorem doneO_app (M : Mach) (W acc : Wld) (o : Ord) (os : List Ord) : (o :: os).foldl (Ord.step M W) acc = os.foldl (Ord.step M W) (o.step M W acc) := rfl
theorem dst_kind {o : Ord} {pl : Plc} (e : o.dst = some pl) : o.kind ≠ "store" := by
  cases o <;> first | (cases e; done) | (simp only [Ord.kind, ne_eq, ofString_inj, String.reduceEq, not_false_eq_true]; done)
theorem dst_step {M : Mach} {W acc : Wld} {o : Ord} {pl : Plc} (e : o.dst = some pl) : o.step M W acc = acc.set M pl (o.made M W) := by
  cases o <;> cases e <;> rfl
local macro_rules | `(tactic| walk_at "x") => `(tactic| first
  | dsimp only [x_namesL]
  | refine go_word_at (by assumption) (by assumption) (by assumption) ?_
  | refine go_cell_asked (by assumption) (by assumption) (by assumption) ?_ | fail)
theorem ok_row_done {P : Program} {w : World} {K : PySem.W.Frag} {mg : Str → Option Value} {base : Heap} {a : Ad} (T : Tx w K mg a) : FnD P w K mg base 4 a.f_row_done a.fd_row_done ["machine", "state", "orders"] sp_row_done := by
  refine fun_okD T.F_row_done sc_row_done (fun ds G R h => ?_) (fun cdv A outer s H hr => ⟨_, (qss_cons (qs_asg (qe_lc false rfl sc_row_done.nd (qi_seq (qv 1)) (blkOk_by (own := [("part", 9)]) (N := N_row_done) (sc := defScope s_row_done) (by decide +kernel)) (fun _ _ _ _ _ => (pg_name (i := 9) sc_row_done.nd rfl (.inl rfl))) (tg_name (i := 9) (by decide)) (fun _ _ _ _ _ => qts_nil) (fun _ _ _ _ _ => (qe_callTy (cd_list true) rfl T.n_list (by decide +kernel) (qa_cons (qv 9) qa_nil)))) (qg_of (pg_unl rfl (pgs_cons (pg_name (i := 3) sc_row_done.nd rfl (.inl rfl)) (pgs_cons (pg_name (i := 4) sc_row_done.nd rfl (.inl rfl)) (pgs_cons (pg_name (i := 5) sc_row_done.nd rfl (.inl rfl)) pgs_nil)))) (tg_namesL (is := [3, 4, 5]) (ws := [3, 4, 5]) (by decide) rfl)))
      (qss_cons (qs_for PassesOwn.never rfl (qi_seq (qv 2)) (qg_of (pg_name (i := 6) sc_row_done.nd rfl (.inl rfl)) (tg_name (i := 6) (ws := [6]) (by decide)))
      (qss_cons (qs_set (i := 7) sc_row_done.nd rfl (.inl rfl) (qe_call (ok_cell_asked T) (hr.mono (by omega)) rfl T.g_cell_asked T.F_cell_asked.kp T.b_cell_asked (qa_cons (qv 0) (qa_cons (qv 1) (qa_cons (qv 6) qa_nil)))))
      (qss_one (qs_if (QW.pt (qw_and (qt_cmp od_isNot (qv 7) qe_non (nomark _)) (qw_and1 (qt_cmp od_ge (qv 7) (qe_callB cd_len rfl T.n_len (by decide +kernel) (qa_cons (qv 5) qa_nil)) (nomark _)))))
      (qss_one (qs_ret (qe_tup (qa_cons qe_str (qa_cons (qv 7) qa_nil)))))
      qss_nil))))
      (qss_cons (qs_for PassesOwn.never rfl (qi_seq (qv 2)) (qg_of (pg_name (i := 6) sc_row_done.nd rfl (.inl rfl)) (tg_name (i := 6) (ws := [6]) (by decide)))
      (qss_cons (qs_if (qt_cmp (od_eq hr.units) (qe_ix xd_ix (qv 6) qe_int (fun _ _ => rfl)) qe_str (nomark _))
      (qss_cons (qs_asg (qe_call (ok_word_at T) (hr.mono (by omega)) rfl T.g_word_at T.F_word_at.kp T.b_word_at (qa_cons (qv 0) (qa_cons (qv 1) (qa_cons (qe_ix xd_ix (qv 6) qe_int (fun _ _ => rfl)) qa_nil)))) (qg_sub (qv 5) (qe_call (ok_word_at T) (hr.mono (by omega)) rfl T.g_word_at T.F_word_at.kp T.b_word_at (qa_cons (qv 0) (qa_cons (qv 1) (qa_cons (qe_ix xd_ix (qv 6) qe_int (fun _ _ => rfl)) qa_nil)))) sd_set))
      (qss_one qs_continue))
      qss_nil)
      (qss_cons (qs_asg (qe_call (ok_place_written T) (hr.mono (by omega)) rfl T.g_place_written T.F_place_written.kp T.b_place_written (qa_cons (qv 6) qa_nil)) (qg_of (pg_tup rfl (pgs_cons (pg_name (i := 8) sc_row_done.nd rfl (.inl rfl)) (pgs_cons (pg_name (i := 9) sc_row_done.nd rfl (.inl rfl)) pgs_nil))) (tg_names (is := [8, 9]) (ws := [8, 9]) (by decide) rfl)))
      (qss_one (qs_if (qt_cmp (od_eq hr.units) (qv 8) qe_str (nomark _))
      (qss_one (qs_asg (qe_call (ok_word_made T) (hr.mono (by omega)) rfl T.g_word_made T.F_word_made.kp T.b_word_made (qa_cons (qv 0) (qa_cons (qv 1) (qa_cons (qv 6) qa_nil)))) (qg_sub (qv 4) (qv 9) sd_set)))
      (qss_one (qs_asg (qe_call (ok_word_made T) (hr.mono (by omega)) rfl T.g_word_made T.F_word_made.kp T.b_word_made (qa_cons (qv 0) (qa_cons (qv 1) (qa_cons (qv 6) qa_nil)))) (qg_sub (qv 3) (qe_mX PySem.F.plainAttrs_tuple PySem.F.slot_tuple_index PySem.F.type_tuple_index md_indexT (qe_ix xd_ix (qv 0) qe_int (fun _ _ => rfl)) (qa_cons (qv 9) qa_nil)) sd_set))))))))
      (qss_one (qs_ret (qe_tup (qa_cons (qe_callTy cd_tuple rfl T.n_tuple (by decide +kernel) (qa_cons (qv 3) qa_nil)) (qa_cons (qe_callTy cd_tuple rfl T.n_tuple (by decide +kernel) (qa_cons (qv 4) qa_nil)) (qa_cons (qe_callTy cd_tuple rfl T.n_tuple (by decide +kernel) (qa_cons (qv 5) qa_nil)) qa_nil))))))))), fun ds G R h => ?_⟩)
  · obtain ⟨M, W, os, rfl, _⟩ := h; rfl
  · obtain ⟨M, W, os, rfl, hM, hW, hos, hl, h⟩ := h
    refine seq_cut (fun σ' G' => ∃ p q r, G p = none ∧ G q = none ∧ G r = none ∧ p ≠ q ∧ p ≠ r ∧ q ≠ r ∧ σ' = [some M.d, some W.d, some (.tup (os.map Ord.d)), some (.ref p), some (.ref q), some (.ref r), none, none, none, none] ∧ G' = gup (gup (gup G p (.lst (W.vis.map .int))) q (.lst (W.hid.map .int))) r (.lst (W.mem.map .int))) ?_ (fun N1 hN1 => ?_)
    rotate_left
    · dsimp only [Wld.d, intsD]
      walk_at "go"
      rename_i p hp q hq r hr
      have h1 : p ≠ q := fresh_ne hq
      have h2 : q ≠ r := fresh_ne hr
      have h3 : G q = none := by rw [gup_ne h1.symm] at hq; exact hq
      have h4 : p ≠ r := fun e => by rw [← e, gup_ne h1, gup_same] at hr; cases hr
      have h5 : G r = none := by rw [gup_ne h2.symm, gup_ne h4.symm] at hr; exact hr
      exact hN1 _ _ ⟨p, q, r, hp, h3, h5, h1, h4, h2, rfl, rfl⟩
    rintro σ G' ⟨p, q, r, hp, hq, hr, hpq, hpr, hqr, rfl, rfl⟩
    have hB : ∀ a b c, Sub G (gup (gup (gup G p a) q b) r c) := fun a b c => ((Sub.new hp).news (by rw [gup_ne hpq.symm]; exact hq)).news (by rw [gup_ne hqr.symm, gup_ne hpr.symm]; exact hr)
    have eP : ∀ a b c, gup (gup (gup G p a) q b) r c p = some a := fun a b c => by rw [gup_ne hpr, gup_ne hpq, gup_same]
    have eQ : ∀ a b c, gup (gup (gup G p a) q b) r c q = some b := fun a b c => by rw [gup_ne hqr, gup_same]
    have eR : ∀ a b c, gup (gup (gup G p a) q b) r c r = some c := fun a b c => gup_same
    refine seq_cut (fun σ' G' => ∃ x6 x7, σ' = [some M.d, some W.d, some (.tup (os.map Ord.d)), some (.ref p), some (.ref q), some (.ref r), x6, x7, none, none] ∧ G' = gup (gup (gup G p (.lst (W.vis.map .int))) q (.lst (W.hid.map .int))) r (.lst (W.mem.map .int)) ∧ trapO M W os = none) ?_ (fun N1 hN1 => ?_)
    rotate_left
    · walk_at "w"
      refine for_go (fun rest σ G' => ∃ (x6 x7 : Option D) (post : List Ord), rest = post.map Ord.d ∧ (∀ o ∈ post, o.ok M) ∧ trapO M W os = trapO M W post ∧ σ = [some M.d, some W.d, some (.tup (os.map Ord.d)), some (.ref p), some (.ref q), some (.ref r), x6, x7, none, none] ∧ G' = gup (gup (gup G p (.lst (W.vis.map .int))) q (.lst (W.hid.map .int))) r (.lst (W.mem.map .int))) ?turn ?fin _ _ _ ⟨none, none, os, rfl, hos, rfl, rfl, rfl⟩
      case fin =>
        rintro σ G' ⟨x6, x7, post, e, _, ht, rfl, rfl⟩
        have : post = [] := by simpa using e.symm
        subst this
        exact ⟨True.intro, hN1 _ _ ⟨x6, x7, rfl, rfl, ht⟩⟩
      case turn =>
        rintro y rest σ G' ⟨x6, x7, post, e, hok, ht, rfl, rfl⟩
        refine ⟨True.intro, fun N hN => ?_⟩
        cases post with
        | nil => cases e
        | cons o post =>
          cases e
          have ho := hok o List.mem_cons_self
          have hok' : ∀ z ∈ post, z.ok M := fun z hz => hok z (List.mem_cons_of_mem _ hz)
          walk_at "go"
          unfold askD
          simp only [trapO] at ht
          cases ea : o.asks M W with
          | none =>
            rw [ea] at ht
            try rw [show DL.isNon D.non = true from rfl]
            walk_at "go"
            exact hN _ _ ⟨_, _, post, rfl, hok', ht, rfl, rfl⟩
          | some c =>
            rw [ea] at ht
            try rw [show DL.isNon (D.int c) = false from rfl]
            walk_at "go"
            refine lenR (eR _ _ _) ?_
            walk_at "w"
            have hlm := hW.lm
            by_cases hc : M.c ≤ c
            · simp only [if_pos hc] at ht
              rw [show decide (((W.mem.map D.int).length : Int) ≤ c) = true by rw [List.length_map]; exact decide_eq_true (by omega)]
              refine ⟨small_line (by decide), ?_⟩
              refine ret_sub (hB _ _ _) ?_
              unfold outD at h
              rw [ht] at h
              exact h
            · simp only [if_neg hc] at ht
              rw [show decide (((W.mem.map D.int).length : Int) ≤ c) = false by rw [List.length_map]; exact decide_eq_false (by omega)]
              exact hN _ _ ⟨_, _, post, rfl, hok', ht, rfl, rfl⟩
    rintro σ G' ⟨x6, x7, rfl, rfl, htr⟩
    have hno : ∀ (os : List Ord), trapO M W os = none → ∀ o ∈ os, ∀ c, o.asks M W = some c → c < M.c := by
      intro os
      induction os with
      | nil => intro _ o ho; cases ho
      | cons z os ih =>
        intro ht o ho c hc
        simp only [trapO] at ht
        rcases List.mem_cons.mp ho with rfl | ho
        · rw [hc] at ht
          by_cases e : M.c ≤ c
          · simp only [if_pos e] at ht; cases ht
          · omega
        · refine ih ?_ o ho c hc
          cases ea : z.asks M W with
          | none => rw [ea] at ht; exact ht
          | some d =>
            rw [ea] at ht
            by_cases e : M.c ≤ d
            · simp only [if_pos e] at ht; cases ht
            · simp only [if_neg e] at ht; exact ht
    have hask := hno os htr
    have hout : outD M W os = (doneO M W os).d := by unfold outD; rw [htr]
    rw [hout] at h
    walk_at "w"
    refine for_go (fun rest σ G' => ∃ (x6 x7 x8 x9 : Option D) (post : List Ord) (acc : Wld), rest = post.map Ord.d ∧ (∀ o ∈ post, o ∈ os) ∧ acc.ok M ∧ doneO M W os = post.foldl (Ord.step M W) acc ∧ σ = [some M.d, some W.d, some (.tup (os.map Ord.d)), some (.ref p), some (.ref q), some (.ref r), x6, x7, x8, x9] ∧ G' = gup (gup (gup G p (.lst (acc.vis.map .int))) q (.lst (acc.hid.map .int))) r (.lst (acc.mem.map .int))) ?turn ?fin _ _ _ ⟨_, _, none, none, os, W, rfl, fun _ h => h, hW, rfl, rfl, rfl⟩
    case fin =>
      rintro σ G' ⟨x6, x7, x8, x9, post, acc, e, _, ha, hd, rfl, rfl⟩
      have : post = [] := by simpa using e.symm
      subst this
      refine ⟨True.intro, kont_go ?_⟩
      walk_at "w"
      refine kont_go ?_
      walk_at "w"
      rw [tuple_r (eP _ _ _)]
      try walk_at "w"
      rw [tuple_r (eQ _ _ _)]
      try walk_at "w"
      rw [tuple_r (eR _ _ _)]
      try walk_at "w"
      rw [show doneO M W os = acc from hd] at h
      exact ⟨small_line (by decide), ret_sub (hB _ _ _) h⟩
    case turn =>
      rintro y rest σ G' ⟨x6, x7, x8, x9, post, acc, e, hok, ha, hd, rfl, rfl⟩
      refine ⟨True.intro, fun N hN => ?_⟩
      cases post with
      | nil => cases e
      | cons o post =>
        cases e
        have hoo := hok o List.mem_cons_self
        have ho := hos o hoo
        have hok' : ∀ z ∈ post, z ∈ os := fun z hz => hok z (List.mem_cons_of_mem _ hz)
        have hao := hask o hoo
        have hst := step_ok hM hW ha ho hao
        have hlm := ha.lm
        rw [doneO_app] at hd
        cases eo : o.dst with
        | none =>
          cases o with
          | store a b =>
            obtain ⟨h1, h2⟩ := ho
            dsimp only [Ord.d]
            walk_at "go"
            have hz := Wld.at_ok hW h1
            have hz2 : W.at M a < M.c := hao _ rfl
            obtain ⟨n, en⟩ : ∃ n : Nat, W.at M a = n := ⟨(W.at M a).toNat, by have := hz.1; omega⟩
            rw [en]
            refine setI_go (eR _ _ _) (by omega) ?_
            rw [gup_gup]
            refine hN _ _ ⟨_, _, _, _, post, _, rfl, hok', hst, hd, rfl, ?_⟩
            show _ = gup (gup (gup G p (.lst (acc.vis.map .int))) q (.lst (acc.hid.map .int))) r (.lst ((acc.mem.set (W.at M a).toNat (W.at M b)).map .int))
            rw [en]
            rfl
          | _ => cases eo
        | some pl =>
          have hpl := dst_ok eo ho
          rw [Ord.d_eq]
          walk_at "go"
          rw [if_neg (dst_kind eo)]
          walk_at "go"
          refine go_place_written' eo ?_
          have hdn : o.dst ≠ none := by rw [eo]; simp
          have hse : o.step M W acc = acc.set M pl (o.made M W) := dst_step eo
          rw [hse] at hst hd
          cases pl with
          | hid k =>
            dsimp only [Plc.d]
            walk_at "go"
            refine go_word_made' hM hW ho hdn hao ?_
            walk_at "go"
            refine setI_go (eQ _ _ _) (by have := ha.lh; have : (k : Int) < M.h := hpl; omega) ?_
            rw [gup_comm hqr, gup_gup, gup_comm hqr.symm]
            exact hN _ _ ⟨_, _, _, _, post, _, rfl, hok', hst, hd, rfl, rfl⟩
          | reg x =>
            dsimp only [Plc.d]
            walk_at "go"
            refine go_word_made' hM hW ho hdn hao ?_
            dsimp only [Mach.d]
            walk_at "go"
            refine ⟨hpl, ?_⟩
            refine setI_go (eP _ _ _) (by rw [ha.lv]; exact List.idxOf_lt_length_of_mem hpl) ?_
            rw [gup_comm hpr.symm, gup_swap hpq]
            exact hN _ _ ⟨_, _, _, _, post, _, rfl, hok', hst, hd, rfl, rfl⟩
theorem go_row_done {M : Mach} {W : Wld} {os : List Ord} {G : Gp} {R : DK} (hM : M.ok) (hW : W.ok M) (hos : ∀ o ∈ os, o.ok M) (hl : os.length ≤ 1000) (k : R (outD M W os) G) : sp_row_done [M.d, W.d, .tup (os.map Ord.d)] G R := ⟨M, W, os, rfl, hM, hW, hos, hl, k⟩
end K68


set_option Elab.async false
set_option linter.all false
set_option maxRecDepth 100000
set_option maxHeartbeats 4000000
set_option autoImplicit false
namespace K68
open PySem PySem.Spec PyProof.Rows L2 DL
local macro_rules | `(tactic| walk_at "d") => `(tactic| dsimp only [dSeq, dNext, dIfS, dRet, dRetN, dAsg, dName, dVar, dC, dOp, dUn, dChain, dB, dAnd, dOr, dNot, dAndV, dOrV, dNotV, dIf, dNil, dCons, dTup, dLst, newL, dCallB, dCall, dCallK, dDrop, dAug, dAugS, dSub, dM, dM0, dSlice, dNoPart, dPart, dLc, dYes, dFor, dIter, dRng1, dEnum, dZipM, srcD, dStar, dInK, dIxK, dLenSet, dRev,
  startD, wipeD, setAll, dNames, List.map_cons, List.map_nil, List.length_cons, List.length_nil, List.replicate, List.cons_append, List.nil_append, List.append_nil, List.getElem?_cons_zero, List.getElem?_cons_succ, List.set_cons_zero, List.set_cons_succ, List.map, Nat.zero_add, Nat.reduceAdd, Nat.reduceSub, Nat.sub_self, Nat.succ_sub_succ_eq_sub])
local macro_rules | `(tactic| walk_at "o") => `(tactic| simp only [dAdd_ii, dAdd_ss, dAdd_tt, dAdd_ll, dMinus_ii, dMul_ii, dMod_ii, dFdiv_ii, dPow_ii, dShl_ii, dNeg_i, dIadd_ii, dLt_ii, dLe_ii, dGt_ii, dGe_ii, dEq_ii, dNe_ii, dEq_ss, dNe_ss, dEq_bb, dNe_bb, dIs_n, dIsNot_n, dMax2_ii, dMin2_ii, dTuple_t, dTuple_l, dList_t, dList_l, dIx_t, dIx_l, dIx_s, dSl_t, dSl_l, dSl_s, newL_f, len_tup, len_lst])
local macro_rules | `(tactic| walk_at "w") => `(tactic| dsimp only [x_var, x_c, x_op, x_un, x_b, x_and, x_or, x_not, x_chain, x_andV, x_orV, x_notV, x_if, x_nil, x_cons, x_tup, x_lst0, x_lst1, x_callB, x_call, x_callK, x_next, x_seq, x_break, x_cont, x_drop, x_ret, x_ifS, x_asg, x_name, x_names, x_sub, x_aug, x_augS, x_for, x_lc0, x_lc1, x_yes, x_noPart, x_part, x_slice, x_iter, it_t, it_l, it_n, it_s, it_r, x_rng1, x_enum, x_rev, x_m, x_m0, x_mX, x_zip, x_star_t, x_star_l, x_lenSet, x_forgo0, x_lcgo0, x_while, x_par, x_sortK,
  br_t, br_f, isB_bl, isI_int, isN_some, slo_some, atL_lst, ix_t, ix_l, ix_n,
  dAdd_ii, dAdd_ss, dAdd_tt, dAdd_ll, dMinus_ii, dMul_ii, dMod_ii, dFdiv_ii, dPow_ii, dShl_ii, dNeg_i, dIadd_ii, dLt_ii, dLe_ii, dGt_ii, dGe_ii, ltE_ii, ltE_ss, srcD, isi_i, isi_s, isi_b, isi_n, isi_t, isi_nt, isi_l, isi2_i, isi2_s, isi2_b, isi2_n, isi2_t, isi2_nt, isi2_l, inon_n, inon_i, inon_s, inon_b, inon_t, inon_l, inon_r, dEq_ii, dNe_ii, dEq_ss, dNe_ss, dEq_bb, dNe_bb, dIs_n, dIsNot_n, dMax2_ii, dMin2_ii, dTuple_t, dTuple_l, dList_t, dList_l, dSl_t, dSl_l, dSl_s, newL_f, newL_t, app_r, int_b, int_i, strI_i, strX_i, strX_s,
  startD, wipeD, setAll, permL, List.filterMap, List.map_cons, List.map_nil, List.length_cons, List.length_nil, List.replicate, List.cons_append, List.nil_append, List.append_nil, List.getElem?_cons_zero, List.getElem?_cons_succ, List.set_cons_zero, List.set_cons_succ, List.map, Nat.zero_add, Nat.reduceAdd, Nat.reduceSub, Nat.sub_self, Nat.succ_sub_succ_eq_sub])
local macro_rules | `(tactic| walk_at "v") => `(tactic| simp only [ofString_inj, String.reduceEq, at_0, at_1, at_2, at_3, at_4, at_5, isN_some, isBB_bl, isB_bl, br_t, br_f, br_not, br_and, br_or, br_dec, ix_r, len_tup, len_lst, len_nt, ltE_key, gup_gup, gup_same, starD_one, cut1, cut2, kt1, kt2, kt3, kt4, kt5, kt6, isTy, String.reduceBEq, Bool.or_false, Bool.false_or, Bool.true_or, Bool.or_true, Bool.and_false, Bool.false_and, Bool.true_and, Bool.and_true, Bool.not_true, Bool.not_false, decide_true, decide_false, eq_self_iff_true, Bool.false_eq_true, Int.reduceAdd, Int.add_zero, if_true, if_false, true_and, and_true])
local macro_rules | `(tactic| walk_at "side") => `(tactic| first | with_reducible assumption | omega | exact mty_up | exact True.intro | (simp only [List.mem_cons, ofString_inj, String.reduceEq, true_or, or_true, List.length_map]; done) | with_reducible exact (rfl : (_ : Nat) = _) | exact (rfl : (_ : Option String) = _) | (refine small_line ?_; omega) | (walk_at "ll"; first | omega | (refine small_line ?_; omega) | fail) | (exact log_small (by omega)) | fail)
local macro_rules | `(tactic| walk_at "x") => `(tactic| fail)
local macro_rules | `(tactic| walk_at "go") => `(tactic| repeat' (first | dsimp only [x_var, x_c, x_op, x_un, x_b, x_and, x_or, x_not, x_chain, x_andV, x_orV, x_notV, x_if, x_nil, x_cons, x_tup, x_lst0, x_lst1, x_callB, x_call, x_callK, x_next, x_seq, x_break, x_cont, x_drop, x_ret, x_ifS, x_asg, x_name, x_names, x_sub, x_aug, x_augS, x_for, x_lc0, x_lc1, x_yes, x_noPart, x_part, x_slice, x_iter, it_t, it_l, it_n, it_s, it_r, x_rng1, x_enum, x_rev, x_m, x_m0, x_mX, x_zip, x_star_t, x_star_l, x_lenSet, x_forgo0, x_lcgo0, x_while, x_par, x_sortK, br_t, br_f, isB_bl, isI_int, isN_some, slo_some, atL_lst, ix_t, ix_l, ix_n, dAdd_ii, dAdd_ss, dAdd_tt, dAdd_ll, dMinus_ii, dMul_ii, dMod_ii, dFdiv_ii, dPow_ii, dShl_ii, dNeg_i, dIadd_ii, dLt_ii, dLe_ii, dGt_ii, dGe_ii, ltE_ii, ltE_ss, srcD, isi_i, isi_s, isi_b, isi_n, isi_t, isi_nt, isi_l, isi2_i, isi2_s, isi2_b, isi2_n, isi2_t, isi2_nt, isi2_l, inon_n, inon_i, inon_s, inon_b, inon_t, inon_l, inon_r, dEq_ii, dNe_ii, dEq_ss, dNe_ss, dEq_bb, dNe_bb, dIs_n, dIsNot_n, dMax2_ii, dMin2_ii, dTuple_t, dTuple_l, dList_t, dList_l, dSl_t, dSl_l, dSl_s, newL_f, newL_t, app_r, int_b, int_i, strI_i, strX_i, strX_s, startD, wipeD, setAll, permL, List.filterMap, List.map_cons, List.map_nil, List.length_cons, List.length_nil, List.replicate, List.cons_append, List.nil_append, List.append_nil, List.getElem?_cons_zero, List.getElem?_cons_succ, List.set_cons_zero, List.set_cons_succ, List.map, Nat.zero_add, Nat.reduceAdd, Nat.reduceSub, Nat.sub_self, Nat.succ_sub_succ_eq_sub] | simp only [ofString_inj, String.reduceEq, at_0, at_1, at_2, at_3, at_4, at_5, isN_some, isBB_bl, isB_bl, br_t, br_f, br_not, br_and, br_or, br_dec, ix_r, len_tup, len_lst, len_nt, ltE_key, gup_gup, gup_same, starD_one, cut1, cut2, kt1, kt2, kt3, kt4, kt5, kt6, isTy, String.reduceBEq, Bool.or_false, Bool.false_or, Bool.true_or, Bool.or_true, Bool.and_false, Bool.false_and, Bool.true_and, Bool.and_true, Bool.not_true, Bool.not_false, decide_true, decide_false, eq_self_iff_true, Bool.false_eq_true, Int.reduceAdd, Int.add_zero, if_true, if_false, true_and, and_true] | walk_at "x" | with_reducible refine kont_go ?_ | with_reducible refine rt_sub (by assumption) ?_ | with_reducible refine rt_lst (by assumption) ?_ | with_reducible refine rt_drop (by assumption) ?_ | with_reducible refine rt_keep (by assumption) (by assumption) ?_ | with_reducible refine rt_same ?_ | (refine fun (p : Addr) (_ : _ = none) => ?_) | refine join_gor gup_same rfl (by walk_at "side") ?_ | with_reducible refine lc_cons ?_ | with_reducible refine for_cons ?_ | refine join_go rfl (by walk_at "side") ?_ | refine And.intro (by first | with_reducible assumption | omega | exact mty_up | exact True.intro | (simp only [List.mem_cons, ofString_inj, String.reduceEq, true_or, or_true, List.length_map]; done) | with_reducible exact (rfl : (_ : Nat) = _) | exact (rfl : (_ : Option String) = _) | (refine small_line ?_; omega) | (walk_at "ll"; first | omega | (refine small_line ?_; omega) | fail) | (exact log_small (by omega)) | fail) ?_ | fail))
local macro_rules | `(tactic| walk_at "ll") => `(tactic| simp only [List.length_map, List.length_append, List.length_cons, List.length_nil, List.map_cons, List.map_nil, List.sum_cons, List.sum_nil, len_app, rng_length, ll_0, ll_1, ll_2, ll_3, ll_4, ll_5, ll_6, ll_7, ll_8, ll_9, ll_10, ll_11, ll_12, ll_13, ll_14, ll_15, ll_16, ll_17, ll_18, ll_19, ll_20, ll_21, ll_22, ll_23, ll_24, ll_25, ll_26, ll_27, ll_28, ll_29, ll_30, ll_31, ll_32, ll_33, ll_34])
/-! ### terms -/
inductive Tm where
  | num (w : Nat) | reg (x : Str) | load (t : Tm) | op (o : Str) (t u : Tm)
deriving DecidableEq
def Tm.d : Tm → D
  | .num w => .tup [.str "num", .int w] | .reg x => .tup [.str "reg", .str x] | .load t => .tup [.str "load", t.d] | .op o t u => .tup [.str o, t.d, u.d]
def Tm.dep : Tm → Nat
  | .num _ => 1 | .reg _ => 1 | .load t => t.dep + 1 | .op _ t u => max t.dep u.dep + 1
def Tm.ok (M : Mach) : Tm → Prop
  | .num w => (w : Int) < 2 ^ M.b.toNat | .reg x => x ∈ M.names | .load t => t.ok M | .op o t u => o ∈ opL ∧ t.ok M ∧ u.ok M
theorem eqs_nc {x : D} {xs : List D} : eqDs [] (x :: xs) = false := by simp only [eqDs]
theorem eqs_cn {x : D} {xs : List D} : eqDs (x :: xs) [] = false := by simp only [eqDs]
theorem opL_py : ∀ op ∈ opL, pyD (.str op) = true := by decide +kernel
theorem Tm.py {M : Mach} (hM : M.ok) : ∀ {t : Tm}, t.ok M → pyD t.d = true ∧ depD t.d = t.dep
  | .num w, h => by
    have h0 : pyD (.str "num") = true := by decide +kernel
    simp only [Tm.d, pyD, pyDs, depD, depDs, Tm.dep] at h0 ⊢
    simp [h0]
  | .reg x, h => by
    have hx := name_py (hM.nm.1 x h)
    have h0 : pyD (.str "reg") = true := by decide +kernel
    simp only [Tm.d, pyD, pyDs, depD, depDs, Tm.dep] at hx h0 ⊢
    simp [hx, h0]
  | .load t, h => by
    have hx := Tm.py hM (t := t) h
    have h0 : pyD (.str "load") = true := by decide +kernel
    simp only [Tm.d, pyD, pyDs, depD, depDs, Tm.dep] at h0 ⊢
    simp [hx, h0]
  | .op o t u, h => by
    have hx := Tm.py hM (t := t) h.2.1
    have hy := Tm.py hM (t := u) h.2.2
    have h0 : pyD (.str o) = true := opL_py o h.1
    simp only [Tm.d, pyD, pyDs, depD, depDs, Tm.dep] at h0 ⊢
    simp [hx, hy, h0]
/-! ### meanings -/
inductive Mn where
  | doo (sets : List (Str × Tm)) (st : Option (Tm × Tm)) | ite (t : Tm) (m n : Mn)
def setD (p : Str × Tm) : D := .tup [.str p.1, p.2.d]
def stD (p : Tm × Tm) : D := .tup [p.1.d, p.2.d]
def Mn.d : Mn → D
  | .doo sets st => .tup [.str "do", .tup (sets.map setD), .tup (st.toList.map stD)]
  | .ite t m n => .tup [.str "if", t.d, m.d, n.d]
def Mn.lv : Mn → Nat
  | .doo _ _ => 0 | .ite _ m n => max m.lv n.lv + 1
/-- its terms are right, of few levels -/
def TOk (M : Mach) (t : Tm) : Prop := t.ok M ∧ t.dep ≤ 7
def Mn.ok (M : Mach) : Mn → Prop
  | .doo sets st => sets.length ≤ 6 ∧ (∀ p ∈ sets, TOk M p.2) ∧ (∀ p ∈ st, TOk M p.1 ∧ TOk M p.2) ∧ (∀ p ∈ sets, p.1 ∈ M.names) ∧ (sets.map (·.1)).Nodup
  | .ite t m n => TOk M t ∧ m.ok M ∧ n.ok M
end K68


set_option Elab.async false
set_option linter.all false
set_option maxRecDepth 100000
set_option maxHeartbeats 4000000
set_option autoImplicit false
namespace K68
open PySem PySem.Spec PyProof.Rows L2 DL
local macro_rules | `(tactic| walk_at "d") => `(tactic| dsimp only [dSeq, dNext, dIfS, dRet, dRetN, dAsg, dName, dVar, dC, dOp, dUn, dChain, dB, dAnd, dOr, dNot, dAndV, dOrV, dNotV, dIf, dNil, dCons, dTup, dLst, newL, dCallB, dCall, dCallK, dDrop, dAug, dAugS, dSub, dM, dM0, dSlice, dNoPart, dPart, dLc, dYes, dFor, dIter, dRng1, dEnum, dZipM, srcD, dStar, dInK, dIxK, dLenSet, dRev,
  startD, wipeD, setAll, dNames, List.map_cons, List.map_nil, List.length_cons, List.length_nil, List.replicate, List.cons_append, List.nil_append, List.append_nil, List.getElem?_cons_zero, List.getElem?_cons_succ, List.set_cons_zero, List.set_cons_succ, List.map, Nat.zero_add, Nat.reduceAdd, Nat.reduceSub, Nat.sub_self, Nat.succ_sub_succ_eq_sub])
local macro_rules | `(tactic| walk_at "o") => `(tactic| simp only [dAdd_ii, dAdd_ss, dAdd_tt, dAdd_ll, dMinus_ii, dMul_ii, dMod_ii, dFdiv_ii, dPow_ii, dShl_ii, dNeg_i, dIadd_ii, dLt_ii, dLe_ii, dGt_ii, dGe_ii, dEq_ii, dNe_ii, dEq_ss, dNe_ss, dEq_bb, dNe_bb, dIs_n, dIsNot_n, dMax2_ii, dMin2_ii, dTuple_t, dTuple_l, dList_t, dList_l, dIx_t, dIx_l, dIx_s, dSl_t, dSl_l, dSl_s, newL_f, len_tup, len_lst])
local macro_rules | `(tactic| walk_at "w") => `(tactic| dsimp only [x_var, x_c, x_op, x_un, x_b, x_and, x_or, x_not, x_chain, x_andV, x_orV, x_notV, x_if, x_nil, x_cons, x_tup, x_lst0, x_lst1, x_callB, x_call, x_callK, x_next, x_seq, x_break, x_cont, x_drop, x_ret, x_ifS, x_asg, x_name, x_names, x_sub, x_aug, x_augS, x_for, x_lc0, x_lc1, x_yes, x_noPart, x_part, x_slice, x_iter, it_t, it_l, it_n, it_s, it_r, x_rng1, x_enum, x_rev, x_m, x_m0, x_mX, x_zip, x_star_t, x_star_l, x_lenSet, x_forgo0, x_lcgo0, x_while, x_par, x_sortK,
  br_t, br_f, isB_bl, isI_int, isN_some, slo_some, atL_lst, ix_t, ix_l, ix_n,
  dAdd_ii, dAdd_ss, dAdd_tt, dAdd_ll, dMinus_ii, dMul_ii, dMod_ii, dFdiv_ii, dPow_ii, dShl_ii, dNeg_i, dIadd_ii, dLt_ii, dLe_ii, dGt_ii, dGe_ii, ltE_ii, ltE_ss, srcD, isi_i, isi_s, isi_b, isi_n, isi_t, isi_nt, isi_l, isi2_i, isi2_s, isi2_b, isi2_n, isi2_t, isi2_nt, isi2_l, inon_n, inon_i, inon_s, inon_b, inon_t, inon_l, inon_r, dEq_ii, dNe_ii, dEq_ss, dNe_ss, dEq_bb, dNe_bb, dIs_n, dIsNot_n, dMax2_ii, dMin2_ii, dTuple_t, dTuple_l, dList_t, dList_l, dSl_t, dSl_l, dSl_s, newL_f, newL_t, app_r, int_b, int_i, strI_i, strX_i, strX_s,
  startD, wipeD, setAll, permL, List.filterMap, List.map_cons, List.map_nil, List.length_cons, List.length_nil, List.replicate, List.cons_append, List.nil_append, List.append_nil, List.getElem?_cons_zero, List.getElem?_cons_succ, List.set_cons_zero, List.set_cons_succ, List.map, Nat.zero_add, Nat.reduceAdd, Nat.reduceSub, Nat.sub_self, Nat.succ_sub_succ_eq_sub])
local macro_rules | `(tactic| walk_at "v") => `(tactic| simp only [ofString_inj, String.reduceEq, at_0, at_1, at_2, at_3, at_4, at_5, isN_some, isBB_bl, isB_bl, br_t, br_f, br_not, br_and, br_or, br_dec, ix_r, len_tup, len_lst, len_nt, ltE_key, gup_gup, gup_same, starD_one, cut1, cut2, kt1, kt2, kt3, kt4, kt5, kt6, isTy, String.reduceBEq, Bool.or_false, Bool.false_or, Bool.true_or, Bool.or_true, Bool.and_false, Bool.false_and, Bool.true_and, Bool.and_true, Bool.not_true, Bool.not_false, decide_true, decide_false, eq_self_iff_true, Bool.false_eq_true, Int.reduceAdd, Int.add_zero, if_true, if_false, true_and, and_true])
local macro_rules | `(tactic| walk_at "side") => `(tactic| first | with_reducible assumption | omega | exact mty_up | exact True.intro | (simp only [List.mem_cons, ofString_inj, String.reduceEq, true_or, or_true, List.length_map]; done) | with_reducible exact (rfl : (_ : Nat) = _) | exact (rfl : (_ : Option String) = _) | (refine small_line ?_; omega) | (walk_at "ll"; first | omega | (refine small_line ?_; omega) | fail) | (exact log_small (by omega)) | fail)
local macro_rules | `(tactic| walk_at "x") => `(tactic| fail)
local macro_rules | `(tactic| walk_at "go") => `(tactic| repeat' (first | dsimp only [x_var, x_c, x_op, x_un, x_b, x_and, x_or, x_not, x_chain, x_andV, x_orV, x_notV, x_if, x_nil, x_cons, x_tup, x_lst0, x_lst1, x_callB, x_call, x_callK, x_next, x_seq, x_break, x_cont, x_drop, x_ret, x_ifS, x_asg, x_name, x_names, x_sub, x_aug, x_augS, x_for, x_lc0, x_lc1, x_yes, x_noPart, x_part, x_slice, x_iter, it_t, it_l, it_n, it_s, it_r, x_rng1, x_enum, x_rev, x_m, x_m0, x_mX, x_zip, x_star_t, x_star_l, x_lenSet, x_forgo0, x_lcgo0, x_while, x_par, x_sortK, br_t, br_f, isB_bl, isI_int, isN_some, slo_some, atL_lst, ix_t, ix_l, ix_n, dAdd_ii, dAdd_ss, dAdd_tt, dAdd_ll, dMinus_ii, dMul_ii, dMod_ii, dFdiv_ii, dPow_ii, dShl_ii, dNeg_i, dIadd_ii, dLt_ii, dLe_ii, dGt_ii, dGe_ii, ltE_ii, ltE_ss, srcD, isi_i, isi_s, isi_b, isi_n, isi_t, isi_nt, isi_l, isi2_i, isi2_s, isi2_b, isi2_n, isi2_t, isi2_nt, isi2_l, inon_n, inon_i, inon_s, inon_b, inon_t, inon_l, inon_r, dEq_ii, dNe_ii, dEq_ss, dNe_ss, dEq_bb, dNe_bb, dIs_n, dIsNot_n, dMax2_ii, dMin2_ii, dTuple_t, dTuple_l, dList_t, dList_l, dSl_t, dSl_l, dSl_s, newL_f, newL_t, app_r, int_b, int_i, strI_i, strX_i, strX_s, startD, wipeD, setAll, permL, List.filterMap, List.map_cons, List.map_nil, List.length_cons, List.length_nil, List.replicate, List.cons_append, List.nil_append, List.append_nil, List.getElem?_cons_zero, List.getElem?_cons_succ, List.set_cons_zero, List.set_cons_succ, List.map, Nat.zero_add, Nat.reduceAdd, Nat.reduceSub, Nat.sub_self, Nat.succ_sub_succ_eq_sub] | simp only [ofString_inj, String.reduceEq, at_0, at_1, at_2, at_3, at_4, at_5, isN_some, isBB_bl, isB_bl, br_t, br_f, br_not, br_and, br_or, br_dec, ix_r, len_tup, len_lst, len_nt, ltE_key, gup_gup, gup_same, starD_one, cut1, cut2, kt1, kt2, kt3, kt4, kt5, kt6, isTy, String.reduceBEq, Bool.or_false, Bool.false_or, Bool.true_or, Bool.or_true, Bool.and_false, Bool.false_and, Bool.true_and, Bool.and_true, Bool.not_true, Bool.not_false, decide_true, decide_false, eq_self_iff_true, Bool.false_eq_true, Int.reduceAdd, Int.add_zero, if_true, if_false, true_and, and_true] | walk_at "x" | with_reducible refine kont_go ?_ | with_reducible refine rt_sub (by assumption) ?_ | with_reducible refine rt_lst (by assumption) ?_ | with_reducible refine rt_drop (by assumption) ?_ | with_reducible refine rt_keep (by assumption) (by assumption) ?_ | with_reducible refine rt_same ?_ | (refine fun (p : Addr) (_ : _ = none) => ?_) | refine join_gor gup_same rfl (by walk_at "side") ?_ | with_reducible refine lc_cons ?_ | with_reducible refine for_cons ?_ | refine join_go rfl (by walk_at "side") ?_ | refine And.intro (by first | with_reducible assumption | omega | exact mty_up | exact True.intro | (simp only [List.mem_cons, ofString_inj, String.reduceEq, true_or, or_true, List.length_map]; done) | with_reducible exact (rfl : (_ : Nat) = _) | exact (rfl : (_ : Option String) = _) | (refine small_line ?_; omega) | (walk_at "ll"; first | omega | (refine small_line ?_; omega) | fail) | (exact log_small (by omega)) | fail) ?_ | fail))
local macro_rules | `(tactic| walk_at "ll") => `(tactic| simp only [List.length_map, List.length_append, List.length_cons, List.length_nil, List.map_cons, List.map_nil, List.sum_cons, List.sum_nil, len_app, rng_length, ll_0, ll_1, ll_2, ll_3, ll_4, ll_5, ll_6, ll_7, ll_8, ll_9, ll_10, ll_11, ll_12, ll_13, ll_14, ll_15, ll_16, ll_17, ll_18, ll_19, ll_20, ll_21, ll_22, ll_23, ll_24, ll_25, ll_26, ll_27, ll_28, ll_29, ll_30, ll_31, ll_32, ll_33, ll_34])
/-! ### terms worked out -/
/-- the word of a term, none where it traps -/
def wrt (M : Mach) (W : Wld) : Tm → Option Int
  | .num w => some w
  | .reg x => some (W.vis.getD (M.names.idxOf x) 0)
  | .load t => match wrt M W t with | some z => if z < M.c then some (W.mem.getD z.toNat 0) else none | none => none
  | .op o t u => match wrt M W t, wrt M W u with | some x, some y => some (reckI M o x y) | _, _ => none
theorem wrt_ok {M : Mach} {W : Wld} (hM : M.ok) (hW : W.ok M) : ∀ {t : Tm} {z : Int}, t.ok M → wrt M W t = some z → wordOk M z
  | .num w, z, h, e => by cases e; exact ⟨by omega, h⟩
  | .reg x, z, h, e => by cases e; exact hW.wv _ (getD_mem (by rw [hW.lv]; exact List.idxOf_lt_length_of_mem h))
  | .load t, z, h, e => by
    simp only [wrt] at e
    split at e
    · rename_i y ey
      split at e
      · rename_i hy
        cases e
        have h1 := wrt_ok hM hW (t := t) h ey
        have := hW.lm
        exact hW.wm _ (getD_mem (by have := h1.1; omega))
      · cases e
    · cases e
  | .op o t u, z, h, e => by
    simp only [wrt] at e
    split at e
    · cases e; exact reck_ok hM
    · cases e
/-- told or trapped -/
def outX (a : Ad) (o : Option D) (R : DK) (RX : DXC) (G : Gp) : Prop := match o with | some d => R d G | none => RX (.ref a.x_Trapped) [] G
theorem trapX {a : Ad} {o : Option D} {R : DK} {RX : DXW} {σ : Sd} {G G0 : Gp} (e : o = none) (s : DL.Sub G0 G) (h : RX (.ref a.x_Trapped) [] σ G0) : outX a o R (subX RX σ) G := by subst e; exact ⟨G0, s, h⟩
def sp_worth (a : Ad) (n : Nat) : DSpX := fun ds G R RX => ∃ (M : Mach) (W : Wld) (t : Tm), ds = [M.d, W.d, t.d] ∧ M.ok ∧ W.ok M ∧ t.ok M ∧ t.dep ≤ n ∧ n ≤ 7 ∧ outX a ((wrt M W t).map .int) R RX G
theorem op_ne : ∀ o ∈ opL, o ≠ Str.ofString "reg" ∧ o ≠ Str.ofString "num" ∧ o ≠ Str.ofString "load" := by decide +kernel
local macro_rules | `(tactic| walk_at "x") => `(tactic| first
  | dsimp only [x_lcX, x_callX, x_raise]
  | refine go_reckoned (by assumption) (by assumption) ?_ | fail)
theorem ok0_worth {P : Program} {w : World} {K : PySem.W.Frag} {mg : Str → Option Value} {base : Heap} {a : Ad} (T : Tx w K mg a) {n j : Nat} {sp' : DSpX} (ih : FnX P w K mg base j a.f_worth a.fd_worth ["machine", "state", "term"] sp') (hj : j ≤ n + 2) (hs : ∀ m, n = m + 1 → ∀ ds G R RX, sp_worth a m ds G R RX → sp' ds G R RX) : FnX P w K mg base (n + 3) a.f_worth a.fd_worth ["machine", "state", "term"] (sp_worth a n) := by
  refine fun_okX T.F_worth sc_worth (fun ds G R RX h => ?_) (fun cdv A outer s H E hr tk => ⟨_, (ssx_cons (sx_of (qs_asg (qv 2) (qg_star (n := 2) (i := 1) (is := [3, 4]) rfl (pgs_cons (pg_name (i := 3) sc_worth.nd rfl (.inl rfl)) (pgs_star (pg_name (i := 4) sc_worth.nd rfl (.inl rfl)) pgs_nil)) (by decide) rfl)))
      (ssx_cons (sx_of (qs_if (qt_cmp (od_eq hr.units) (qv 3) qe_str (nomark _))
      (qss_one (qs_ret (qe_ix xd_ix (qv 4) qe_int (fun _ _ => rfl))))
      qss_nil))
      (ssx_cons (sx_of (qs_if (qt_cmp (od_eq hr.units) (qv 3) qe_str (nomark _))
      (qss_one (qs_ret (qe_ix xd_ix (qe_ix xd_ix (qv 1) qe_int (fun _ _ => rfl)) (qe_mX PySem.F.plainAttrs_tuple PySem.F.slot_tuple_index PySem.F.type_tuple_index md_indexT (qe_ix xd_ix (qv 0) qe_int (fun _ _ => rfl)) (qa_cons (qe_ix xd_ix (qv 4) qe_int (fun _ _ => rfl)) qa_nil)) (fun _ _ => rfl))))
      qss_nil))
      (ssx_cons (sx_setLc false (i := 5) rfl rfl tk rfl sc_worth.nd rfl rfl (sw_true rfl rfl rfl (by decide +kernel)) (qi_seq (qv 4)) (blkOk_by (own := [("part", 6)]) (N := N_worth) (sc := defScope s_worth) (by decide +kernel)) (fun _ _ _ _ _ => (pg_name (i := 6) sc_worth.nd rfl (.inl rfl))) (tg_name (i := 6) (by decide)) (fun _ _ _ _ _ => qts_nil) (fun _ _ _ _ _ _ _ hx => (ex_callA hx ih (hr.mono (by omega)) rfl T.g_worth T.F_worth.kp T.b_worth (ax_of (qa_cons (qv 0) (qa_cons (qv 1) (qa_cons (qv 6) qa_nil)))))))
      (ssx_cons (sx_of (qs_if (qt_cmp (od_ne hr.units) (qv 3) qe_str (nomark _))
      (qss_one (qs_ret (qe_call (ok_reckoned T) (hr.mono (by omega)) rfl T.g_reckoned T.F_reckoned.kp T.b_reckoned (qa_cons (qv 0) (qa_cons (qv 3) (qa_cons (qe_ix xd_ix (qv 5) qe_int (fun _ _ => rfl)) (qa_cons (qe_ix xd_ix (qv 5) qe_int (fun _ _ => rfl)) qa_nil)))))))
      qss_nil))
      (ssx_cons (sx_if (tx_of (qt_cmp od_ge (qe_ix xd_ix (qv 5) qe_int (fun _ _ => rfl)) (qe_callB cd_len rfl T.n_len (by decide +kernel) (qa_cons (qe_ix xd_ix (qv 1) qe_int (fun _ _ => rfl)) qa_nil)) (nomark _)))
      (ssx_one (sx_raise rfl tk PySem.F.excBase_Exception T.xx_Trapped T.gx_Trapped T.kx_Trapped T.bx_Trapped T.tx_Trapped rfl))
      ssx_nil)
      (ssx_one (sx_of (qs_ret (qe_ix xd_ix (qe_ix xd_ix (qv 1) qe_int (fun _ _ => rfl)) (qe_ix xd_ix (qv 5) qe_int (fun _ _ => rfl)) (fun _ _ => rfl))))))))))), fun ds G R RX h => ?_⟩)
  · obtain ⟨M, W, t, rfl, _⟩ := h; rfl
  · obtain ⟨M, W, t, rfl, hM, hW, ht, hd, hn, h⟩ := h
    cases t with
    | num w =>
      rw [show (Tm.num w).d = .tup [.str "num", .int w] from rfl]
      walk_at "go"
      exact h
    | reg x =>
      rw [show (Tm.reg x).d = .tup [.str "reg", .str x] from rfl]
      dsimp only [Wld.d, intsD, Mach.d]
      walk_at "go"
      refine ⟨ht, ?_⟩
      refine ixi_go (by rw [hW.lv]; exact List.idxOf_lt_length_of_mem ht) ?_
      walk_at "go"
      exact h
    | load t =>
      simp only [Tm.dep] at hd
      obtain ⟨m, rfl⟩ : ∃ m, n = m + 1 := ⟨n - 1, by omega⟩
      rw [show (Tm.load t).d = .tup [.str "load", t.d] from rfl]
      walk_at "go"
      refine hs m rfl _ _ _ _ ⟨M, W, t, rfl, hM, hW, ht, by omega, by omega, ?_⟩
      simp only [wrt] at h
      cases e : wrt M W t with
      | none =>
        rw [e] at h
        exact trapX rfl (DL.Sub.refl _) h
      | some z =>
        rw [e] at h
        obtain ⟨hz, _⟩ := wrt_ok hM hW (t := t) ht e
        obtain ⟨k, rfl⟩ : ∃ k : Nat, z = k := ⟨z.toNat, by omega⟩
        have hlm := hW.lm
        simp only [Option.map_some, outX]
        dsimp only [Wld.d, intsD]
        walk_at "go"
        by_cases hk : (k : Int) < M.c
        · dsimp only at h
          rw [if_pos hk] at h
          rw [if_neg (by simp only [List.length_map]; omega)]
          walk_at "go"
          refine ixi_go (by omega) ?_
          walk_at "go"
          exact h
        · dsimp only at h
          rw [if_neg hk] at h
          rw [if_pos (by simp only [List.length_map]; omega)]
          exact ⟨_, DL.Sub.refl _, h⟩
    | op o t u =>
      simp only [Tm.dep] at hd
      obtain ⟨m, rfl⟩ : ∃ m, n = m + 1 := ⟨n - 1, by omega⟩
      obtain ⟨ho, ht, hu⟩ := ht
      obtain ⟨n1, n2, n3⟩ := op_ne o ho
      rw [show (Tm.op o t u).d = .tup [.str o, t.d, u.d] from rfl]
      walk_at "go"
      rw [if_neg n2]
      walk_at "go"
      rw [if_neg n1]
      walk_at "go"
      simp only [wrt] at h
      refine hs m rfl _ _ _ _ ⟨M, W, t, rfl, hM, hW, ht, by omega, by omega, ?_⟩
      cases e : wrt M W t with
      | none =>
        rw [e] at h
        exact trapX rfl (DL.Sub.refl _) h
      | some z =>
        simp only [Option.map_some, outX]
        walk_at "go"
        refine hs m rfl _ _ _ _ ⟨M, W, u, rfl, hM, hW, hu, by omega, by omega, ?_⟩
        rw [e] at h
        cases e2 : wrt M W u with
        | none =>
          rw [e2] at h
          exact trapX rfl (DL.Sub.refl _) h
        | some y =>
          rw [e2] at h
          simp only [Option.map_some, outX]
          walk_at "go"
          rw [if_neg n3]
          refine go_reckoned hM ho ?_
          walk_at "go"
          exact h
theorem ok_worth_n {P : Program} {w : World} {K : PySem.W.Frag} {mg : Str → Option Value} {base : Heap} {a : Ad} (T : Tx w K mg a) : ∀ n : Nat, FnX P w K mg base (n + 3) a.f_worth a.fd_worth ["machine", "state", "term"] (sp_worth a n)
  | 0 => ok0_worth T (j := 0) fnx_never (by omega) (fun m e => by omega)
  | n + 1 => ok0_worth T (ok_worth_n T n) (by omega) (fun m e ds G R RX h => by
    have : n = m := by omega
    subst this
    exact h)
theorem ok_worth {P : Program} {w : World} {K : PySem.W.Frag} {mg : Str → Option Value} {base : Heap} {a : Ad} (T : Tx w K mg a) : FnX P w K mg base 10 a.f_worth a.fd_worth ["machine", "state", "term"] (sp_worth a 7) := ok_worth_n T 7
theorem go_worth {a : Ad} {M : Mach} {W : Wld} {t : Tm} {G : Gp} {R : DK} {RX : DXC} (hM : M.ok) (hW : W.ok M) (ht : TOk M t) (h : outX a ((wrt M W t).map .int) R RX G) : sp_worth a 7 [M.d, W.d, t.d] G R RX := ⟨M, W, t, rfl, hM, hW, ht.1, ht.2, by omega, h⟩
end K68


set_option Elab.async false
set_option linter.all false
set_option maxRecDepth 100000
set_option maxHeartbeats 4000000
set_option autoImplicit false
namespace K68
open PySem PySem.Spec PyProof.Rows L2 DL
local macro_rules | `(tactic| walk_at "d") => `(tactic| dsimp only [dSeq, dNext, dIfS, dRet, dRetN, dAsg, dName, dVar, dC, dOp, dUn, dChain, dB, dAnd, dOr, dNot, dAndV, dOrV, dNotV, dIf, dNil, dCons, dTup, dLst, newL, dCallB, dCall, dCallK, dDrop, dAug, dAugS, dSub, dM, dM0, dSlice, dNoPart, dPart, dLc, dYes, dFor, dIter, dRng1, dEnum, dZipM, srcD, dStar, dInK, dIxK, dLenSet, dRev,
  startD, wipeD, setAll, dNames, List.map_cons, List.map_nil, List.length_cons, List.length_nil, List.replicate, List.cons_append, List.nil_append, List.append_nil, List.getElem?_cons_zero, List.getElem?_cons_succ, List.set_cons_zero, List.set_cons_succ, List.map, Nat.zero_add, Nat.reduceAdd, Nat.reduceSub, Nat.sub_self, Nat.succ_sub_succ_eq_sub])
local macro_rules | `(tactic| walk_at "o") => `(tactic| simp only [dAdd_ii, dAdd_ss, dAdd_tt, dAdd_ll, dMinus_ii, dMul_ii, dMod_ii, dFdiv_ii, dPow_ii, dShl_ii, dNeg_i, dIadd_ii, dLt_ii, dLe_ii, dGt_ii, dGe_ii, dEq_ii, dNe_ii, dEq_ss, dNe_ss, dEq_bb, dNe_bb, dIs_n, dIsNot_n, dMax2_ii, dMin2_ii, dTuple_t, dTuple_l, dList_t, dList_l, dIx_t, dIx_l, dIx_s, dSl_t, dSl_l, dSl_s, newL_f, len_tup, len_lst])
local macro_rules | `(tactic| walk_at "w") => `(tactic| dsimp only [x_var, x_c, x_op, x_un, x_b, x_and, x_or, x_not, x_chain, x_andV, x_orV, x_notV, x_if, x_nil, x_cons, x_tup, x_lst0, x_lst1, x_callB, x_call, x_callK, x_next, x_seq, x_break, x_cont, x_drop, x_ret, x_ifS, x_asg, x_name, x_names, x_sub, x_aug, x_augS, x_for, x_lc0, x_lc1, x_yes, x_noPart, x_part, x_slice, x_iter, it_t, it_l, it_n, it_s, it_r, x_rng1, x_enum, x_rev, x_m, x_m0, x_mX, x_zip, x_star_t, x_star_l, x_lenSet, x_forgo0, x_lcgo0, x_while, x_par, x_sortK,
  br_t, br_f, isB_bl, isI_int, isN_some, slo_some, atL_lst, ix_t, ix_l, ix_n,
  dAdd_ii, dAdd_ss, dAdd_tt, dAdd_ll, dMinus_ii, dMul_ii, dMod_ii, dFdiv_ii, dPow_ii, dShl_ii, dNeg_i, dIadd_ii, dLt_ii, dLe_ii, dGt_ii, dGe_ii, ltE_ii, ltE_ss, srcD, isi_i, isi_s, isi_b, isi_n, isi_t, isi_nt, isi_l, isi2_i, isi2_s, isi2_b, isi2_n, isi2_t, isi2_nt, isi2_l, inon_n, inon_i, inon_s, inon_b, inon_t, inon_l, inon_r, dEq_ii, dNe_ii, dEq_ss, dNe_ss, dEq_bb, dNe_bb, dIs_n, dIsNot_n, dMax2_ii, dMin2_ii, dTuple_t, dTuple_l, dList_t, dList_l, dSl_t, dSl_l, dSl_s, newL_f, newL_t, app_r, int_b, int_i, strI_i, strX_i, strX_s,
  startD, wipeD, setAll, permL, List.filterMap, List.map_cons, List.map_nil, List.length_cons, List.length_nil, List.replicate, List.cons_append, List.nil_append, List.append_nil, List.getElem?_cons_zero, List.getElem?_cons_succ, List.set_cons_zero, List.set_cons_succ, List.map, Nat.zero_add, Nat.reduceAdd, Nat.reduceSub, Nat.sub_self, Nat.succ_sub_succ_eq_sub])
local macro_rules | `(tactic| walk_at "v") => `(tactic| simp only [ofString_inj, String.reduceEq, at_0, at_1, at_2, at_3, at_4, at_5, isN_some, isBB_bl, isB_bl, br_t, br_f, br_not, br_and, br_or, br_dec, ix_r, len_tup, len_lst, len_nt, ltE_key, gup_gup, gup_same, starD_one, cut1, cut2, kt1, kt2, kt3, kt4, kt5, kt6, isTy, String.reduceBEq, Bool.or_false, Bool.false_or, Bool.true_or, Bool.or_true, Bool.and_false, Bool.false_and, Bool.true_and, Bool.and_true, Bool.not_true, Bool.not_false, decide_true, decide_false, eq_self_iff_true, Bool.false_eq_true, Int.reduceAdd, Int.add_zero, if_true, if_false, true_and, and_true])
local macro_rules | `(tactic| walk_at "side") => `(tactic| first | with_reducible assumption | omega | exact mty_up | exact True.intro | (simp only [List.mem_cons, ofString_inj, String.reduceEq, true_or, or_true, List.length_map]; done) | with_reducible exact (rfl : (_ : Nat) = _) | exact (rfl : (_ : Option String) = _) | (refine small_line ?_; omega) | (walk_at "ll"; first | omega | (refine small_line ?_; omega) | fail) | (exact log_small (by omega)) | fail)
local macro_rules | `(tactic| walk_at "x") => `(tactic| fail)
local macro_rules | `(tactic| walk_at "go") => `(tactic| repeat' (first | dsimp only [x_var, x_c, x_op, x_un, x_b, x_and, x_or, x_not, x_chain, x_andV, x_orV, x_notV, x_if, x_nil, x_cons, x_tup, x_lst0, x_lst1, x_callB, x_call, x_callK, x_next, x_seq, x_break, x_cont, x_drop, x_ret, x_ifS, x_asg, x_name, x_names, x_sub, x_aug, x_augS, x_for, x_lc0, x_lc1, x_yes, x_noPart, x_part, x_slice, x_iter, it_t, it_l, it_n, it_s, it_r, x_rng1, x_enum, x_rev, x_m, x_m0, x_mX, x_zip, x_star_t, x_star_l, x_lenSet, x_forgo0, x_lcgo0, x_while, x_par, x_sortK, br_t, br_f, isB_bl, isI_int, isN_some, slo_some, atL_lst, ix_t, ix_l, ix_n, dAdd_ii, dAdd_ss, dAdd_tt, dAdd_ll, dMinus_ii, dMul_ii, dMod_ii, dFdiv_ii, dPow_ii, dShl_ii, dNeg_i, dIadd_ii, dLt_ii, dLe_ii, dGt_ii, dGe_ii, ltE_ii, ltE_ss, srcD, isi_i, isi_s, isi_b, isi_n, isi_t, isi_nt, isi_l, isi2_i, isi2_s, isi2_b, isi2_n, isi2_t, isi2_nt, isi2_l, inon_n, inon_i, inon_s, inon_b, inon_t, inon_l, inon_r, dEq_ii, dNe_ii, dEq_ss, dNe_ss, dEq_bb, dNe_bb, dIs_n, dIsNot_n, dMax2_ii, dMin2_ii, dTuple_t, dTuple_l, dList_t, dList_l, dSl_t, dSl_l, dSl_s, newL_f, newL_t, app_r, int_b, int_i, strI_i, strX_i, strX_s, startD, wipeD, setAll, permL, List.filterMap, List.map_cons, List.map_nil, List.length_cons, List.length_nil, List.replicate, List.cons_append, List.nil_append, List.append_nil, List.getElem?_cons_zero, List.getElem?_cons_succ, List.set_cons_zero, List.set_cons_succ, List.map, Nat.zero_add, Nat.reduceAdd, Nat.reduceSub, Nat.sub_self, Nat.succ_sub_succ_eq_sub] | simp only [ofString_inj, String.reduceEq, at_0, at_1, at_2, at_3, at_4, at_5, isN_some, isBB_bl, isB_bl, br_t, br_f, br_not, br_and, br_or, br_dec, ix_r, len_tup, len_lst, len_nt, ltE_key, gup_gup, gup_same, starD_one, cut1, cut2, kt1, kt2, kt3, kt4, kt5, kt6, isTy, String.reduceBEq, Bool.or_false, Bool.false_or, Bool.true_or, Bool.or_true, Bool.and_false, Bool.false_and, Bool.true_and, Bool.and_true, Bool.not_true, Bool.not_false, decide_true, decide_false, eq_self_iff_true, Bool.false_eq_true, Int.reduceAdd, Int.add_zero, if_true, if_false, true_and, and_true] | walk_at "x" | with_reducible refine kont_go ?_ | with_reducible refine rt_sub (by assumption) ?_ | with_reducible refine rt_lst (by assumption) ?_ | with_reducible refine rt_drop (by assumption) ?_ | with_reducible refine rt_keep (by assumption) (by assumption) ?_ | with_reducible refine rt_same ?_ | (refine fun (p : Addr) (_ : _ = none) => ?_) | refine join_gor gup_same rfl (by walk_at "side") ?_ | with_reducible refine lc_cons ?_ | with_reducible refine for_cons ?_ | refine join_go rfl (by walk_at "side") ?_ | refine And.intro (by first | with_reducible assumption | omega | exact mty_up | exact True.intro | (simp only [List.mem_cons, ofString_inj, String.reduceEq, true_or, or_true, List.length_map]; done) | with_reducible exact (rfl : (_ : Nat) = _) | exact (rfl : (_ : Option String) = _) | (refine small_line ?_; omega) | (walk_at "ll"; first | omega | (refine small_line ?_; omega) | fail) | (exact log_small (by omega)) | fail) ?_ | fail))
local macro_rules | `(tactic| walk_at "ll") => `(tactic| simp only [List.length_map, List.length_append, List.length_cons, List.length_nil, List.map_cons, List.map_nil, List.sum_cons, List.sum_nil, len_app, rng_length, ll_0, ll_1, ll_2, ll_3, ll_4, ll_5, ll_6, ll_7, ll_8, ll_9, ll_10, ll_11, ll_12, ll_13, ll_14, ll_15, ll_16, ll_17, ll_18, ll_19, ll_20, ll_21, ll_22, ll_23, ll_24, ll_25, ll_26, ll_27, ll_28, ll_29, ll_30, ll_31, ll_32, ll_33, ll_34])
/-! ### what is done, done -/
def wrtAll (M : Mach) (W : Wld) : List (Str × Tm) → Option (List (Str × Int))
  | [] => some []
  | p :: r => match wrt M W p.2, wrtAll M W r with | some z, some l => some ((p.1, z) :: l) | _, _ => none
def stoF (M : Mach) (W : Wld) : Option (Tm × Tm) → Option (List Int)
  | none => some W.mem
  | some p => match wrt M W p.1, wrt M W p.2 with | some x, some y => if x < M.c then some (W.mem.set x.toNat y) else none | _, _ => none
/-- words set at their registers -/
def visF (M : Mach) (l : List (Str × Int)) (vis : List Int) : List Int := l.foldl (fun v p => v.set (M.names.idxOf p.1) p.2) vis
def behF (M : Mach) (W : Wld) : Mn → Option (List Int × List Int)
  | .ite t m n => match wrt M W t with | some z => if z = 0 then behF M W n else behF M W m | none => none
  | .doo sets st => match wrtAll M W sets, stoF M W st with | some l, some mem => some (visF M l W.vis, mem) | _, _ => none
def outP (p : List Int × List Int) : D := .tup [intsD p.1, intsD p.2]
theorem wrtAll_fst {M : Mach} {W : Wld} : ∀ {sets : List (Str × Tm)} {l : List (Str × Int)}, wrtAll M W sets = some l → l.map (·.1) = sets.map (·.1)
  | [], l, e => by cases e; rfl
  | p :: r, l, e => by
    simp only [wrtAll] at e
    split at e
    · rename_i e1 e2
      cases e
      simp only [List.map_cons, wrtAll_fst e2]
    · cases e
theorem vis_look {l : List (Str × Int)} : ∀ (names : List Str) (vis : List Int), names.Nodup → vis.length = names.length → (l.map (·.1)).Nodup → (∀ p ∈ l, p.1 ∈ names) →
    (names.zip vis).map (fun q => (l.lookup q.1).getD q.2) = l.foldl (fun v p => v.set (names.idxOf p.1) p.2) vis := by
  induction l with
  | nil =>
    intro names vis hn hl _ _
    simp only [List.lookup_nil, Option.getD_none, List.foldl_nil]
    exact List.map_snd_zip (Nat.le_of_eq hl)
  | cons p l ih =>
    intro names vis hn hl hnd hin
    rw [List.map_cons, List.nodup_cons] at hnd
    rw [List.foldl_cons, ← ih names (vis.set (names.idxOf p.1) p.2) hn (by rw [List.length_set]; exact hl) hnd.2 fun q hq => hin q (List.mem_cons_of_mem _ hq)]
    apply List.ext_getElem
    · simp only [List.length_map, List.length_zip, List.length_set]
    · intro i h1 h2
      simp only [List.getElem_map, List.getElem_zip]
      have hi : i < names.length := by simp only [List.length_map, List.length_zip] at h1; omega
      rw [List.lookup_cons]
      by_cases e : names[i] = p.1
      · have ei : names.idxOf p.1 = i := by rw [← e]; exact List.Nodup.idxOf_getElem hn i hi
        have en : l.lookup p.1 = none := by
          cases q : l.lookup p.1 with
          | none => rfl
          | some z =>
            have hm : ∀ {l : List (Str × Int)} {k : Str} {z : Int}, l.lookup k = some z → k ∈ l.map (·.1) := by
              intro l
              induction l with
              | nil => intro k z h; cases h
              | cons q l ih2 =>
                intro k z h
                rw [List.lookup_cons] at h
                by_cases ek : k = q.1
                · subst ek; exact List.mem_cons_self
                · have : (k == q.1) = false := by simpa using ek
                  rw [this] at h
                  exact List.mem_cons_of_mem _ (ih2 h)
            exact absurd (hm q) hnd.1
        rw [show (names[i] == p.1) = true by simpa using e]
        simp only [e, en, Option.getD_none, Option.getD_some, ei]
        rw [List.getElem_set_self]
      · rw [show (names[i] == p.1) = false by simpa using e]
        have hne : names.idxOf p.1 ≠ i := fun z => e (by
          have := List.getElem_idxOf (List.idxOf_lt_length_of_mem (hin p List.mem_cons_self))
          rw [← this]
          simp only [z])
        simp only
        rw [List.getElem_set_ne hne]
/-- the dict of the words told -/
def wdK (l : List (Str × Int)) : List (Key × D) := l.map fun p => (Sum.inr p.1, D.int p.2)
theorem putKD_new {kvs : List (Key × D)} {k : Key} {v : D} (h : k ∉ kvs.map (·.1)) : putKD kvs k v = kvs ++ [(k, v)] := by
  unfold putKD
  rw [if_neg]
  intro z
  rw [List.any_eq_true] at z
  obtain ⟨p, hp, e⟩ := z
  exact h (List.mem_map.mpr ⟨p, hp, of_decide_eq_true e⟩)
theorem wdK_look {l : List (Str × Int)} {x : Str} : valD (wdK l) (Sum.inr x) = (l.lookup x).map .int := by
  induction l with
  | nil => rfl
  | cons p l ih =>
    unfold wdK at ih ⊢
    rw [List.map_cons, valD_cons, List.lookup_cons]
    by_cases e : p.1 = x
    · subst e
      rw [if_pos rfl]
      simp
    · rw [if_neg (fun z => e (Sum.inr.inj z)), ih, show (x == p.1) = false by simpa using fun z => e z.symm]
theorem outX_sub {a : Ad} {o : Option D} {R : DK} {RX : DXW} {σ : Sd} {G : Gp} (h : outX a o R (fun cls fs G => RX cls fs σ G) G) : outX a o (fun d G1 => Rt R d G1) (subX RX σ) G := by
  cases o with
  | none => exact ⟨G, DL.Sub.refl _, h⟩
  | some d => exact rt_same h
def sp_parts_behind (a : Ad) (n : Nat) : DSpX := fun ds G R RX => ∃ (M : Mach) (W : Wld) (m : Mn), ds = [M.d, W.d, m.d] ∧ M.ok ∧ W.ok M ∧ m.ok M ∧ m.lv ≤ n ∧ n ≤ 7 ∧ outX a ((behF M W m).map outP) R RX G
local macro_rules | `(tactic| walk_at "x") => `(tactic| first
  | dsimp only [x_lcX, x_dcX, x_dc, x_callX, x_raise, x_namesL]
  | fail)
theorem ok0_parts_behind {P : Program} {w : World} {K : PySem.W.Frag} {mg : Str → Option Value} {base : Heap} {a : Ad} (T : Tx w K mg a) {n j : Nat} {sp' : DSpX} (ih : FnX P w K mg base j a.f_parts_behind a.fd_parts_behind ["machine", "state", "meaning"] sp') (hj : j ≤ n + 10) (hs : ∀ m, n = m + 1 → ∀ ds G R RX, sp_parts_behind a m ds G R RX → sp' ds G R RX) : FnX P w K mg base (n + 11) a.f_parts_behind a.fd_parts_behind ["machine", "state", "meaning"] (sp_parts_behind a n) := by
  refine fun_okX T.F_parts_behind sc_parts_behind (fun ds G R RX h => ?_) (fun cdv A outer s H E hr tk => ⟨_, (ssx_cons (sx_of (qs_asg (qv 2) (qg_star (n := 2) (i := 1) (is := [3, 4]) rfl (pgs_cons (pg_name (i := 3) sc_parts_behind.nd rfl (.inl rfl)) (pgs_star (pg_name (i := 4) sc_parts_behind.nd rfl (.inl rfl)) pgs_nil)) (by decide) rfl)))
      (ssx_cons (sx_if (tx_of (qt_cmp (od_eq hr.units) (qv 3) qe_str (nomark _)))
      (ssx_cons (sx_of (qs_asg (qv 4) (qg_of (pg_unl rfl (pgs_cons (pg_name (i := 5) sc_parts_behind.nd rfl (.inl rfl)) (pgs_cons (pg_name (i := 6) sc_parts_behind.nd rfl (.inl rfl)) (pgs_cons (pg_name (i := 7) sc_parts_behind.nd rfl (.inl rfl)) pgs_nil)))) (tg_namesL (is := [5, 6, 7]) (ws := [5, 6, 7]) (by decide) rfl))))
      (ssx_one (sx_ret (ex_callA (fun σ => L2N.passAt tk σ) ih (hr.mono (by omega)) rfl T.g_parts_behind T.F_parts_behind.kp T.b_parts_behind (ax_cons (ex_of (qv 0)) (ax_cons (ex_of (qv 1)) (ax_cons (ex_ifExp (tx_cmp (od_ne hr.units) (ex_callA (fun σ => L2N.passAt tk σ) (ok_worth T) (hr.mono (by omega)) rfl T.g_worth T.F_worth.kp T.b_worth (ax_of (qa_cons (qv 0) (qa_cons (qv 1) (qa_cons (qv 5) qa_nil))))) (ex_of qe_int) (nomark _)) (ex_of (qv 6)) (ex_of (qv 7))) ax_nil)))))))
      ssx_nil)
      (ssx_cons (sx_of (qs_asg (qv 4) (qg_of (pg_unl rfl (pgs_cons (pg_name (i := 8) sc_parts_behind.nd rfl (.inl rfl)) (pgs_cons (pg_name (i := 9) sc_parts_behind.nd rfl (.inl rfl)) pgs_nil))) (tg_namesL (is := [8, 9]) (ws := [8, 9]) (by decide) rfl))))
      (ssx_cons (sx_set (i := 10) sc_parts_behind.nd rfl (.inr rfl) (ex_dc rfl rfl tk rfl sc_parts_behind.nd (qi_seq (qv 8)) (blkOk_by (own := [("name", 17), ("term", 13)]) (N := N_parts_behind) (sc := defScope s_parts_behind) (by decide +kernel)) (fun _ _ _ _ _ => (pg_tup rfl (pgs_cons (pg_name (i := 17) sc_parts_behind.nd rfl (.inl rfl)) (pgs_cons (pg_name (i := 13) sc_parts_behind.nd rfl (.inl rfl)) pgs_nil)))) (tg_names (is := [17, 13]) (by decide) rfl) (fun _ _ _ _ _ => qts_nil) (fun _ _ _ _ _ _ _ hx => (ex_of (qv 17))) (fun _ _ _ _ _ _ _ hx => (ex_callA hx (ok_worth T) (hr.mono (by omega)) rfl T.g_worth T.F_worth.kp T.b_worth (ax_of (qa_cons (qv 0) (qa_cons (qv 1) (qa_cons (qv 13) qa_nil))))))))
      (ssx_cons (sx_of (qs_set (i := 11) sc_parts_behind.nd rfl (.inl rfl) (qe_callTy (cd_list true) rfl T.n_list (by decide +kernel) (qa_cons (qe_ix xd_ix (qv 1) qe_int (fun _ _ => rfl)) qa_nil))))
      (ssx_cons (sx_for PassesOwn.leaving rfl (qi_seq (qv 9)) (qg_of (pg_tup rfl (pgs_cons (pg_name (i := 12) sc_parts_behind.nd rfl (.inl rfl)) (pgs_cons (pg_name (i := 13) sc_parts_behind.nd rfl (.inl rfl)) pgs_nil))) (tg_names (is := [12, 13]) (ws := [12, 13]) (by decide) rfl))
      (ssx_cons (sx_asg (ex_lc false rfl rfl tk rfl sc_parts_behind.nd (qi_seq (qe_tup (qa_cons (qv 12) (qa_cons (qv 13) qa_nil)))) (blkOk_by (own := [("one", 6)]) (N := N_parts_behind) (sc := defScope s_parts_behind) (by decide +kernel)) (fun _ _ _ _ _ => (pg_name (i := 6) sc_parts_behind.nd rfl (.inl rfl))) (tg_name (i := 6) (by decide)) (fun _ _ _ _ _ => qts_nil) (fun _ _ _ _ _ _ _ hx => (ex_callA hx (ok_worth T) (hr.mono (by omega)) rfl T.g_worth T.F_worth.kp T.b_worth (ax_of (qa_cons (qv 0) (qa_cons (qv 1) (qa_cons (qv 6) qa_nil))))))) (qg_of (pg_unl rfl (pgs_cons (pg_name (i := 14) sc_parts_behind.nd rfl (.inl rfl)) (pgs_cons (pg_name (i := 15) sc_parts_behind.nd rfl (.inl rfl)) pgs_nil))) (tg_namesL (is := [14, 15]) (ws := [14, 15]) (by decide) rfl)))
      (ssx_cons (sx_if (tx_of (qt_cmp od_ge (qv 14) (qe_callB cd_len rfl T.n_len (by decide +kernel) (qa_cons (qv 11) qa_nil)) (nomark _)))
      (ssx_one (sx_raise rfl tk PySem.F.excBase_Exception T.xx_Trapped T.gx_Trapped T.kx_Trapped T.bx_Trapped T.tx_Trapped rfl))
      ssx_nil)
      (ssx_one (sx_of (qs_asg (qv 15) (qg_sub (qv 11) (qv 14) sd_set)))))))
      (ssx_cons (sx_of (qs_setLc false (i := 16) rfl sc_parts_behind.nd rfl rfl (sw_true rfl rfl rfl (by decide +kernel)) (qi_zipM rfl T.n_zip (qa_cons (qe_ix xd_ix (qv 0) qe_int (fun _ _ => rfl)) (qa_cons (qe_ix xd_ix (qv 1) qe_int (fun _ _ => rfl)) qa_nil))) (blkOk_by (own := [("name", 17), ("old", 18)]) (N := N_parts_behind) (sc := defScope s_parts_behind) (by decide +kernel)) (fun _ _ _ _ _ => (pg_tup rfl (pgs_cons (pg_name (i := 17) sc_parts_behind.nd rfl (.inl rfl)) (pgs_cons (pg_name (i := 18) sc_parts_behind.nd rfl (.inl rfl)) pgs_nil)))) (tg_names (is := [17, 18]) (by decide) rfl) (fun _ _ _ _ _ => qts_nil) (fun _ _ _ _ _ => (qe_getK2 (rm1 (room100 hr)) (qv 10) (qv 17) (qv 18) ⟨rfl, rfl, rfl, rfl⟩))))
      (ssx_one (sx_of (qs_ret (qe_tup (qa_cons (qe_callTy cd_tuple rfl T.n_tuple (by decide +kernel) (qa_cons (qv 16) qa_nil)) (qa_cons (qe_callTy cd_tuple rfl T.n_tuple (by decide +kernel) (qa_cons (qv 11) qa_nil)) qa_nil))))))))))))), fun ds G R RX h => ?_⟩)
  · obtain ⟨M, W, m, rfl, _⟩ := h; rfl
  · obtain ⟨M, W, m, rfl, hM, hW, hm, hlv, hn, h⟩ := h
    cases m with
    | ite t m n' =>
      obtain ⟨ht, hm1, hm2⟩ := hm
      simp only [Mn.lv] at hlv
      obtain ⟨k, rfl⟩ : ∃ m, n = m + 1 := ⟨n - 1, by omega⟩
      rw [show (Mn.ite t m n').d = .tup [.str "if", t.d, m.d, n'.d] from rfl]
      walk_at "go"
      simp only [behF] at h
      refine go_worth hM hW ht ?_
      cases e : wrt M W t with
      | none => rw [e] at h; exact trapX rfl (DL.Sub.refl _) h
      | some z =>
        rw [e] at h
        dsimp only at h
        simp only [Option.map_some, outX]
        walk_at "go"
        by_cases hz : z = 0
        · rw [if_pos hz] at h
          rw [if_pos hz]
          exact hs k rfl _ _ _ _ ⟨M, W, n', rfl, hM, hW, hm2, by omega, by omega, outX_sub h⟩
        · rw [if_neg hz] at h
          rw [if_neg hz]
          exact hs k rfl _ _ _ _ ⟨M, W, m, rfl, hM, hW, hm1, by omega, by omega, outX_sub h⟩
    | doo sets st =>
      obtain ⟨hl6, hts, hsto, hnm, hnd⟩ := hm
      rw [show (Mn.doo sets st).d = .tup [.str "do", .tup (sets.map setD), .tup (st.toList.map stD)] from rfl]
      generalize eA : D.tup [.str "do", .tup (sets.map setD), .tup (st.toList.map stD)] = dA
      generalize eB : D.lst [.tup (sets.map setD), .tup (st.toList.map stD)] = dB
      refine seq_cut (fun σ' G' => σ' = [some M.d, some W.d, some dA, some (.str "do"), some dB, none, none, none, none, none, none, none, none, none, none, none, none, none, none] ∧ G' = G) ?_ (fun N1 hN1 => ?_)
      rotate_left
      · subst eA eB
        walk_at "go"
        exact hN1 _ _ ⟨rfl, rfl⟩
      rintro σ G1 ⟨rfl, rfl⟩
      refine seq_cut (fun σ' G' => σ' = [some M.d, some W.d, some dA, some (.str "do"), some dB, none, none, none, none, none, none, none, none, none, none, none, none, none, none] ∧ G' = G1) ?_ (fun N1 hN1 => ?_)
      rotate_left
      · walk_at "go"
        exact hN1 _ _ ⟨rfl, rfl⟩
      rintro σ G1 ⟨rfl, rfl⟩
      refine seq_cut (fun σ' G' => σ' = [some M.d, some W.d, some dA, some (.str "do"), some dB, none, none, none, some (.tup (sets.map setD)), some (.tup (st.toList.map stD)), none, none, none, none, none, none, none, none, none] ∧ G' = G1) ?_ (fun N1 hN1 => ?_)
      rotate_left
      · subst eB
        walk_at "go"
        exact hN1 _ _ ⟨rfl, rfl⟩
      rintro σ G1 ⟨rfl, rfl⟩
      simp only [behF] at h
      refine seq_cut (fun σ' G' => ∃ (p : Addr) (l : List (Str × Int)), wrtAll M W sets = some l ∧ G1 p = none ∧ σ' = [some M.d, some W.d, some dA, some (.str "do"), some dB, none, none, none, some (.tup (sets.map setD)), some (.tup (st.toList.map stD)), some (.ref p), none, none, none, none, none, none, none, none] ∧ G' = gup G1 p (.dK (wdK l))) ?_ (fun N1 hN1 => ?_)
      rotate_left
      · have dcg : ∀ (rest : List (Str × Tm)) (acc : List (Str × Int)) (Q : List (Key × D) → Gp → Prop), (∀ p ∈ rest, TOk M p.2) → (acc.map (·.1) ++ rest.map (·.1)).Nodup → (match wrtAll M W rest with | some l => Q (wdK (acc ++ l)) G1 | none => RX (.ref a.x_Trapped) [] G1) →
            dDcGo (dNames [17, 13]) dYes (dVar 17) (dCallX (sp_worth a 7) (fun cls fs x G' => RX cls fs G') (dCons (dVar 0) (dCons (dVar 1) (dCons (dVar 13) dNil)))) (fun x => True)
              [some M.d, some W.d, some dA, some (.str "do"), some dB, none, none, none, some (.tup (sets.map setD)), some (.tup (st.toList.map stD)), none, none, none, none, none, none, none, none, none] (rest.map setD) (wdK acc) G1 Q := by
          intro rest
          induction rest with
          | nil =>
            intro acc Q _ _ q
            simp only [wrtAll, List.append_nil] at q
            exact ⟨True.intro, q⟩
          | cons p rest ih =>
            intro acc Q ht hn q
            rw [List.map_cons, x_dcgo1]
            refine ⟨True.intro, ?_⟩
            unfold setD
            walk_at "go"
            refine go_worth hM hW (ht p List.mem_cons_self) ?_
            simp only [wrtAll] at q
            cases e : wrt M W p.2 with
            | none => rw [e] at q; exact trapX rfl (DL.Sub.refl _) q
            | some z =>
              rw [e] at q
              simp only [Option.map_some, outX]
              refine ⟨Sum.inr p.1, rfl, ?_⟩
              have hnew : (Sum.inr p.1 : Key) ∉ (wdK acc).map (·.1) := by
                unfold wdK
                rw [List.map_map]
                intro hm
                obtain ⟨q', hq', e'⟩ := List.mem_map.mp hm
                have : q'.1 = p.1 := Sum.inr.inj e'
                rw [List.map_cons] at hn
                exact (List.nodup_append.mp hn).2.2 q'.1 (List.mem_map.mpr ⟨q', hq', rfl⟩) p.1 List.mem_cons_self this
              rw [putKD_new hnew, show wdK acc ++ [(Sum.inr p.1, D.int z)] = wdK (acc ++ [(p.1, z)]) by simp [wdK]]
              refine ih (acc ++ [(p.1, z)]) Q (fun x hx => ht x (List.mem_cons_of_mem _ hx)) (by simpa [List.append_assoc] using hn) ?_
              cases e2 : wrtAll M W rest with
              | none => rw [e2] at q; exact q
              | some l => rw [e2] at q; simpa [List.append_assoc] using q
        walk_at "go"
        try refine ⟨small_line (by rw [List.length_map]; omega), ?_⟩
        refine dcg sets [] _ hts (by simpa using hnd) ?_
        cases e : wrtAll M W sets with
        | none => rw [e] at h; exact h
        | some l =>
          dsimp only [List.nil_append]
          intro p np
          exact hN1 _ _ ⟨p, l, e, np, rfl, rfl⟩
      rintro σ G ⟨p, l, el, np, rfl, rfl⟩
      rw [el] at h
      have hW' := hW.lm
      refine seq_cut (fun σ' G' => ∃ (r : Addr), p ≠ r ∧ G1 r = none ∧ σ' = [some M.d, some W.d, some dA, some (.str "do"), some dB, none, none, none, some (.tup (sets.map setD)), some (.tup (st.toList.map stD)), some (.ref p), some (.ref r), none, none, none, none, none, none, none] ∧ G' = gup (gup G1 p (.dK (wdK l))) r (.lst (W.mem.map .int))) ?_ (fun N1 hN1 => ?_)
      rotate_left
      · dsimp only [Wld.d, intsD]
        walk_at "go"
        rename_i r nr
        have hpr : p ≠ r := fun z => by rw [z, gup_same] at nr; cases nr
        rw [gup_ne hpr.symm] at nr
        exact hN1 _ _ ⟨r, hpr, nr, rfl, rfl⟩
      rintro σ G ⟨r, hpr, nr, rfl, rfl⟩
      have sub0 : ∀ m : List Int, DL.Sub G1 (gup (gup G1 p (.dK (wdK l))) r (.lst (m.map .int))) := fun m => ((DL.Sub.refl G1).put np).put nr
      refine seq_cut (fun σ' G' => ∃ (mem : List Int) (x12 x13 x14 x15 : Option D), stoF M W st = some mem ∧ σ' = [some M.d, some W.d, some dA, some (.str "do"), some dB, none, none, none, some (.tup (sets.map setD)), some (.tup (st.toList.map stD)), some (.ref p), some (.ref r), x12, x13, x14, x15, none, none, none] ∧ G' = gup (gup G1 p (.dK (wdK l))) r (.lst (mem.map .int))) ?_ (fun N1 hN1 => ?_)
      rotate_left
      · cases st with
        | none =>
          rw [show (Option.none (α := Tm × Tm)).toList.map stD = [] from rfl]
          walk_at "go"
          exact hN1 _ _ ⟨W.mem, none, none, none, none, rfl, rfl, rfl⟩
        | some q =>
          obtain ⟨hq1, hq2⟩ := hsto q rfl
          rw [show (some q).toList.map stD = [.tup [q.1.d, q.2.d]] from rfl]
          simp only [stoF] at h hN1
          walk_at "go"
          refine go_worth hM hW hq1 ?_
          cases e1 : wrt M W q.1 with
          | none => rw [e1] at h; exact trapX rfl (sub0 _) h
          | some x =>
            rw [e1] at h hN1
            simp only [Option.map_some, outX]
            walk_at "go"
            refine go_worth hM hW hq2 ?_
            cases e2 : wrt M W q.2 with
            | none => rw [e2] at h; exact trapX rfl (sub0 _) h
            | some y =>
              rw [e2] at h hN1
              dsimp only at h hN1
              simp only [Option.map_some, outX]
              obtain ⟨hx0, _⟩ := wrt_ok hM hW hq1.1 e1
              obtain ⟨kx, rfl⟩ : ∃ k : Nat, x = k := ⟨x.toNat, by omega⟩
              walk_at "go"
              rw [len_ref gup_same, List.length_map]
              walk_at "go"
              by_cases hk : (kx : Int) < M.c
              · rw [if_pos hk] at hN1
                rw [if_neg (by omega)]
                walk_at "go"
                refine setN_go gup_same (by rw [List.length_map]; omega) ?_
                rw [gup_gup]
                walk_at "go"
                exact hN1 _ _ ⟨W.mem.set kx y, _, _, _, _, rfl, rfl, by rw [List.map_set]⟩
              · rw [if_neg hk] at h
                rw [if_pos (by omega)]
                exact ⟨G1, sub0 _, h⟩
      rintro σ G ⟨mem, x12, x13, x14, x15, em, rfl, rfl⟩
      rw [em] at h
      have h : R (outP (visF M l W.vis, mem)) G1 := h
      have hv : (M.names.zip W.vis).map (fun q => (l.lookup q.1).getD q.2) = visF M l W.vis := by
        have hf := wrtAll_fst el
        refine vis_look M.names W.vis hM.nm.2 hW.lv (by rw [hf]; exact hnd) fun p' hp' => ?_
        have : p'.1 ∈ sets.map (·.1) := by rw [← hf]; exact List.mem_map.mpr ⟨p', hp', rfl⟩
        obtain ⟨q, hq, e⟩ := List.mem_map.mp this
        rw [← e]
        exact hnm q hq
      have hn6 := hM.n2
      dsimp only [Mach.d, Wld.d, intsD]
      walk_at "go"
      try refine ⟨small_line (by rw [zipD_length]; simp only [List.length_map]; omega), ?_⟩
      rw [zipD_map]
      refine lc_typ _ (fun q => D.int ((l.lookup q.1).getD q.2)) True.intro (M.names.zip W.vis) [] (fun q hq Q k => ?_) _ ?_
      · walk_at "go"
        refine ⟨p, wdK l, rfl, by rw [gup_ne hpr, gup_same], ?_⟩
        walk_at "go"
        refine ⟨Sum.inr q.1, rfl, by rw [gup_ne hpr, gup_same], ?_⟩
        rw [wdK_look]
        cases e : l.lookup q.1 with
        | none => rw [e] at k; exact k
        | some z => rw [e] at k; exact k
      rw [List.nil_append, show (M.names.zip W.vis).map (fun q => D.int ((l.lookup q.1).getD q.2)) = (visF M l W.vis).map .int by rw [← hv, List.map_map]; rfl]
      walk_at "go"
      rw [tuple_r gup_same]
      refine ⟨by decide, rt_sub (sub0 _) h⟩
theorem ok_parts_behind_n {P : Program} {w : World} {K : PySem.W.Frag} {mg : Str → Option Value} {base : Heap} {a : Ad} (T : Tx w K mg a) : ∀ n : Nat, FnX P w K mg base (n + 11) a.f_parts_behind a.fd_parts_behind ["machine", "state", "meaning"] (sp_parts_behind a n)
  | 0 => ok0_parts_behind T (j := 0) fnx_never (by omega) (fun m e => by omega)
  | n + 1 => ok0_parts_behind T (ok_parts_behind_n T n) (by omega) (fun m e ds G R RX h => by
    have : n = m := by omega
    subst this
    exact h)
theorem ok_parts_behind {P : Program} {w : World} {K : PySem.W.Frag} {mg : Str → Option Value} {base : Heap} {a : Ad} (T : Tx w K mg a) : FnX P w K mg base 18 a.f_parts_behind a.fd_parts_behind ["machine", "state", "meaning"] (sp_parts_behind a 7) := ok_parts_behind_n T 7
theorem go_behind {a : Ad} {M : Mach} {W : Wld} {m : Mn} {G : Gp} {R : DK} {RX : DXC} (hM : M.ok) (hW : W.ok M) (hm : m.ok M) (hl : m.lv ≤ 7) (h : outX a ((behF M W m).map outP) R RX G) : sp_parts_behind a 7 [M.d, W.d, m.d] G R RX := ⟨M, W, m, rfl, hM, hW, hm, hl, by omega, h⟩
/-- the visible part behind, or the trap -/
def meantD (M : Mach) (W : Wld) (m : Mn) : D := match behF M W m with | some p => outP p | none => .tup [.str "trap"]
def sp_meant : DSp := fun ds G R => ∃ (M : Mach) (W : Wld) (m : Mn), ds = [M.d, m.d, W.d] ∧ M.ok ∧ W.ok M ∧ m.ok M ∧ m.lv ≤ 7 ∧ R (meantD M W m) G
local macro_rules | `(tactic| walk_at "x") => `(tactic| first
  | dsimp only [x_try, x_callX]
  | fail)
theorem ok_meant {P : Program} {w : World} {K : PySem.W.Frag} {mg : Str → Option Value} {base : Heap} {a : Ad} (T : Tx w K mg a) : FnD P w K mg base 19 a.f_meant a.fd_meant ["machine", "meaning", "state"] sp_meant := by
  refine fun_okD T.F_meant sc_meant (fun ds G R h => ?_) (fun cdv A outer s H hr => ⟨_, (qss_one (qs_try rfl rfl (fun _ _ _ tk hp => (ssx_one (sx_ret (ex_callA (fun σ => L2N.passAt tk σ) (ok_parts_behind T) (hr.mono (by omega)) rfl T.g_parts_behind T.F_parts_behind.kp T.b_parts_behind (ax_of (qa_cons (qv 0) (qa_cons (qv 2) (qa_cons (qv 1) qa_nil))))))))
      (.cons ⟨rfl, by decide, .inl T.gx_Trapped⟩ (fun _ _ _ => (qss_one (qs_ret (qe_tup (qa_cons qe_str qa_nil))))) .nil))), fun ds G R h => ?_⟩)
  · obtain ⟨M, W, m, rfl, _⟩ := h; rfl
  · obtain ⟨M, W, m, rfl, hM, hW, hm, hl, h⟩ := h
    unfold meantD at h
    walk_at "go"
    refine go_behind hM hW hm hl ?_
    cases e : behF M W m with
    | some q =>
      rw [e] at h
      exact rt_same h
    | none =>
      rw [e] at h
      refine subX_same (hand_yes T.xm_Trapped_Trapped ?_)
      walk_at "go"
      exact h
theorem go_meant {M : Mach} {W : Wld} {m : Mn} {G : Gp} {R : DK} (hM : M.ok) (hW : W.ok M) (hm : m.ok M) (hl : m.lv ≤ 7) (h : R (meantD M W m) G) : sp_meant [M.d, m.d, W.d] G R := ⟨M, W, m, rfl, hM, hW, hm, hl, h⟩
end K68


set_option Elab.async false
set_option linter.all false
set_option maxRecDepth 100000
set_option maxHeartbeats 4000000
set_option autoImplicit false
namespace K68
open PySem PySem.Spec PyProof.Rows L2 DL
local macro_rules | `(tactic| walk_at "d") => `(tactic| dsimp only [dSeq, dNext, dIfS, dRet, dRetN, dAsg, dName, dVar, dC, dOp, dUn, dChain, dB, dAnd, dOr, dNot, dAndV, dOrV, dNotV, dIf, dNil, dCons, dTup, dLst, newL, dCallB, dCall, dCallK, dDrop, dAug, dAugS, dSub, dM, dM0, dSlice, dNoPart, dPart, dLc, dYes, dFor, dIter, dRng1, dEnum, dZipM, srcD, dStar, dInK, dIxK, dLenSet, dRev,
  startD, wipeD, setAll, dNames, List.map_cons, List.map_nil, List.length_cons, List.length_nil, List.replicate, List.cons_append, List.nil_append, List.append_nil, List.getElem?_cons_zero, List.getElem?_cons_succ, List.set_cons_zero, List.set_cons_succ, List.map, Nat.zero_add, Nat.reduceAdd, Nat.reduceSub, Nat.sub_self, Nat.succ_sub_succ_eq_sub])
local macro_rules | `(tactic| walk_at "o") => `(tactic| simp only [dAdd_ii, dAdd_ss, dAdd_tt, dAdd_ll, dMinus_ii, dMul_ii, dMod_ii, dFdiv_ii, dPow_ii, dShl_ii, dNeg_i, dIadd_ii, dLt_ii, dLe_ii, dGt_ii, dGe_ii, dEq_ii, dNe_ii, dEq_ss, dNe_ss, dEq_bb, dNe_bb, dIs_n, dIsNot_n, dMax2_ii, dMin2_ii, dTuple_t, dTuple_l, dList_t, dList_l, dIx_t, dIx_l, dIx_s, dSl_t, dSl_l, dSl_s, newL_f, len_tup, len_lst])
local macro_rules | `(tactic| walk_at "w") => `(tactic| dsimp only [x_var, x_c, x_op, x_un, x_b, x_and, x_or, x_not, x_chain, x_andV, x_orV, x_notV, x_if, x_nil, x_cons, x_tup, x_lst0, x_lst1, x_callB, x_call, x_callK, x_next, x_seq, x_break, x_cont, x_drop, x_ret, x_ifS, x_asg, x_name, x_names, x_sub, x_aug, x_augS, x_for, x_lc0, x_lc1, x_yes, x_noPart, x_part, x_slice, x_iter, it_t, it_l, it_n, it_s, it_r, x_rng1, x_enum, x_rev, x_m, x_m0, x_mX, x_zip, x_star_t, x_star_l, x_lenSet, x_forgo0, x_lcgo0, x_while, x_par, x_sortK,
  br_t, br_f, isB_bl, isI_int, isN_some, slo_some, atL_lst, ix_t, ix_l, ix_n,
  dAdd_ii, dAdd_ss, dAdd_tt, dAdd_ll, dMinus_ii, dMul_ii, dMod_ii, dFdiv_ii, dPow_ii, dShl_ii, dNeg_i, dIadd_ii, dLt_ii, dLe_ii, dGt_ii, dGe_ii, ltE_ii, ltE_ss, srcD, isi_i, isi_s, isi_b, isi_n, isi_t, isi_nt, isi_l, isi2_i, isi2_s, isi2_b, isi2_n, isi2_t, isi2_nt, isi2_l, inon_n, inon_i, inon_s, inon_b, inon_t, inon_l, inon_r, dEq_ii, dNe_ii, dEq_ss, dNe_ss, dEq_bb, dNe_bb, dIs_n, dIsNot_n, dMax2_ii, dMin2_ii, dTuple_t, dTuple_l, dList_t, dList_l, dSl_t, dSl_l, dSl_s, newL_f, newL_t, app_r, int_b, int_i, strI_i, strX_i, strX_s,
  startD, wipeD, setAll, permL, List.filterMap, List.map_cons, List.map_nil, List.length_cons, List.length_nil, List.replicate, List.cons_append, List.nil_append, List.append_nil, List.getElem?_cons_zero, List.getElem?_cons_succ, List.set_cons_zero, List.set_cons_succ, List.map, Nat.zero_add, Nat.reduceAdd, Nat.reduceSub, Nat.sub_self, Nat.succ_sub_succ_eq_sub])
local macro_rules | `(tactic| walk_at "v") => `(tactic| simp only [ofString_inj, String.reduceEq, at_0, at_1, at_2, at_3, at_4, at_5, isN_some, isBB_bl, isB_bl, br_t, br_f, br_not, br_and, br_or, br_dec, ix_r, len_tup, len_lst, len_nt, ltE_key, gup_gup, gup_same, starD_one, cut1, cut2, kt1, kt2, kt3, kt4, kt5, kt6, isTy, String.reduceBEq, Bool.or_false, Bool.false_or, Bool.true_or, Bool.or_true, Bool.and_false, Bool.false_and, Bool.true_and, Bool.and_true, Bool.not_true, Bool.not_false, decide_true, decide_false, eq_self_iff_true, Bool.false_eq_true, Int.reduceAdd, Int.add_zero, if_true, if_false, true_and, and_true])
local macro_rules | `(tactic| walk_at "side") => `(tactic| first | with_reducible assumption | omega | exact mty_up | exact True.intro | (simp only [List.mem_cons, ofString_inj, String.reduceEq, true_or, or_true, List.length_map]; done) | with_reducible exact (rfl : (_ : Nat) = _) | exact (rfl : (_ : Option String) = _) | (refine small_line ?_; omega) | (walk_at "ll"; first | omega | (refine small_line ?_; omega) | fail) | (exact log_small (by omega)) | fail)
local macro_rules | `(tactic| walk_at "x") => `(tactic| fail)
local macro_rules | `(tactic| walk_at "go") => `(tactic| repeat' (first | dsimp only [x_var, x_c, x_op, x_un, x_b, x_and, x_or, x_not, x_chain, x_andV, x_orV, x_notV, x_if, x_nil, x_cons, x_tup, x_lst0, x_lst1, x_callB, x_call, x_callK, x_next, x_seq, x_break, x_cont, x_drop, x_ret, x_ifS, x_asg, x_name, x_names, x_sub, x_aug, x_augS, x_for, x_lc0, x_lc1, x_yes, x_noPart, x_part, x_slice, x_iter, it_t, it_l, it_n, it_s, it_r, x_rng1, x_enum, x_rev, x_m, x_m0, x_mX, x_zip, x_star_t, x_star_l, x_lenSet, x_forgo0, x_lcgo0, x_while, x_par, x_sortK, br_t, br_f, isB_bl, isI_int, isN_some, slo_some, atL_lst, ix_t, ix_l, ix_n, dAdd_ii, dAdd_ss, dAdd_tt, dAdd_ll, dMinus_ii, dMul_ii, dMod_ii, dFdiv_ii, dPow_ii, dShl_ii, dNeg_i, dIadd_ii, dLt_ii, dLe_ii, dGt_ii, dGe_ii, ltE_ii, ltE_ss, srcD, isi_i, isi_s, isi_b, isi_n, isi_t, isi_nt, isi_l, isi2_i, isi2_s, isi2_b, isi2_n, isi2_t, isi2_nt, isi2_l, inon_n, inon_i, inon_s, inon_b, inon_t, inon_l, inon_r, dEq_ii, dNe_ii, dEq_ss, dNe_ss, dEq_bb, dNe_bb, dIs_n, dIsNot_n, dMax2_ii, dMin2_ii, dTuple_t, dTuple_l, dList_t, dList_l, dSl_t, dSl_l, dSl_s, newL_f, newL_t, app_r, int_b, int_i, strI_i, strX_i, strX_s, startD, wipeD, setAll, permL, List.filterMap, List.map_cons, List.map_nil, List.length_cons, List.length_nil, List.replicate, List.cons_append, List.nil_append, List.append_nil, List.getElem?_cons_zero, List.getElem?_cons_succ, List.set_cons_zero, List.set_cons_succ, List.map, Nat.zero_add, Nat.reduceAdd, Nat.reduceSub, Nat.sub_self, Nat.succ_sub_succ_eq_sub] | simp only [ofString_inj, String.reduceEq, at_0, at_1, at_2, at_3, at_4, at_5, isN_some, isBB_bl, isB_bl, br_t, br_f, br_not, br_and, br_or, br_dec, ix_r, len_tup, len_lst, len_nt, ltE_key, gup_gup, gup_same, starD_one, cut1, cut2, kt1, kt2, kt3, kt4, kt5, kt6, isTy, String.reduceBEq, Bool.or_false, Bool.false_or, Bool.true_or, Bool.or_true, Bool.and_false, Bool.false_and, Bool.true_and, Bool.and_true, Bool.not_true, Bool.not_false, decide_true, decide_false, eq_self_iff_true, Bool.false_eq_true, Int.reduceAdd, Int.add_zero, if_true, if_false, true_and, and_true] | walk_at "x" | with_reducible refine kont_go ?_ | with_reducible refine rt_sub (by assumption) ?_ | with_reducible refine rt_lst (by assumption) ?_ | with_reducible refine rt_drop (by assumption) ?_ | with_reducible refine rt_keep (by assumption) (by assumption) ?_ | with_reducible refine rt_same ?_ | (refine fun (p : Addr) (_ : _ = none) => ?_) | refine join_gor gup_same rfl (by walk_at "side") ?_ | with_reducible refine lc_cons ?_ | with_reducible refine for_cons ?_ | refine join_go rfl (by walk_at "side") ?_ | refine And.intro (by first | with_reducible assumption | omega | exact mty_up | exact True.intro | (simp only [List.mem_cons, ofString_inj, String.reduceEq, true_or, or_true, List.length_map]; done) | with_reducible exact (rfl : (_ : Nat) = _) | exact (rfl : (_ : Option String) = _) | (refine small_line ?_; omega) | (walk_at "ll"; first | omega | (refine small_line ?_; omega) | fail) | (exact log_small (by omega)) | fail) ?_ | fail))
local macro_rules | `(tactic| walk_at "ll") => `(tactic| simp only [List.length_map, List.length_append, List.length_cons, List.length_nil, List.map_cons, List.map_nil, List.sum_cons, List.sum_nil, len_app, rng_length, ll_0, ll_1, ll_2, ll_3, ll_4, ll_5, ll_6, ll_7, ll_8, ll_9, ll_10, ll_11, ll_12, ll_13, ll_14, ll_15, ll_16, ll_17, ll_18, ll_19, ll_20, ll_21, ll_22, ll_23, ll_24, ll_25, ll_26, ll_27, ll_28, ll_29, ll_30, ll_31, ll_32, ll_33, ll_34])
def sp_word_at_programs : DSp := fun ds G R => ∃ (M : Mach) (W : Wld) (p : Plc), ds = [M.d, W.d, p.d] ∧ M.ok ∧ W.ok M ∧ p.ok M ∧ R (.int (W.at M p)) G
theorem ok_word_at_programs {P : Program} {w : World} {K : PySem.W.Frag} {mg : Str → Option Value} {base : Heap} {a : Ad} (T : Tx w K mg a) : FnD P w K mg base 1 a.f_word_at_programs a.fd_word_at_programs ["machine", "state", "place"] sp_word_at_programs := by
  refine fun_okD T.F_word_at_programs sc_word_at_programs (fun ds G R h => ?_) (fun cdv A outer s H hr => ⟨_, (qss_cons (qs_asg (qv 1) (qg_of (pg_tup rfl (pgs_cons (pg_name (i := 3) sc_word_at_programs.nd rfl (.inl rfl)) (pgs_cons (pg_name (i := 4) sc_word_at_programs.nd rfl (.inl rfl)) (pgs_cons (pg_name (i := 5) sc_word_at_programs.nd rfl (.inl rfl)) pgs_nil)))) (tg_names (is := [3, 4, 5]) (ws := [3, 4, 5]) (by decide) rfl)))
      (qss_cons (qs_if (qt_cmp (od_eq hr.units) (qe_ix xd_ix (qv 2) qe_int (fun _ _ => rfl)) qe_str (nomark _))
      (qss_one (qs_ret (qe_ix xd_ix (qv 4) (qe_ix xd_ix (qv 2) qe_int (fun _ _ => rfl)) (fun _ _ => rfl))))
      qss_nil)
      (qss_one (qs_ret (qe_ix xd_ix (qv 3) (qe_mX PySem.F.plainAttrs_tuple PySem.F.slot_tuple_index PySem.F.type_tuple_index md_indexT (qe_ix xd_ix (qv 0) qe_int (fun _ _ => rfl)) (qa_cons (qe_ix xd_ix (qv 2) qe_int (fun _ _ => rfl)) qa_nil)) (fun _ _ => rfl)))))), fun ds G R h => ?_⟩)
  · obtain ⟨M, W, p, rfl, _⟩ := h; rfl
  · obtain ⟨M, W, p, rfl, hM, hW, hp, h⟩ := h
    dsimp only [Wld.d, intsD]
    cases p with
    | reg x =>
      dsimp only [Plc.d, Mach.d]
      walk_at "go"
      refine ⟨hp, ?_⟩
      refine ixi_go (by rw [hW.lv]; exact List.idxOf_lt_length_of_mem hp) ?_
      walk_at "go"
      exact h
    | hid k =>
      dsimp only [Plc.d]
      walk_at "go"
      rw [atI_int (by have := hW.lh; have : (k : Int) < M.h := hp; omega)]
      walk_at "go"
      exact h
theorem eq_ts {ds : List D} {z : Str} {G : Gp} {R : DK} (h : pyDs ds = true) (hd : depDs ds ≤ 50) (hz : pyD (.str z) = true) (k : R (.bl false) G) : dEq (.tup ds) (.str z) G R := by
  rw [eq_pure (by simpa only [pyD] using h) hz (by simp only [depD]; omega) (by simp [depD])]
  simpa [eqD] using k
/-- the program of one row without orders -/
def noneD : D := .tup [.tup [.tup [], .tup [.str "end"]]]
def sp_run : DSp := fun ds G R => ∃ (M : Mach) (W : Wld), ds = [M.d, noneD, W.d] ∧ M.ok ∧ W.ok M ∧ R W.d G
theorem ok_run {P : Program} {w : World} {K : PySem.W.Frag} {mg : Str → Option Value} {base : Heap} {a : Ad} (T : Tx w K mg a) : FnD P w K mg base 5 a.f_run a.fd_run ["machine", "program", "state"] sp_run := by
  refine fun_okD T.F_run sc_run (fun ds G R h => ?_) (fun cdv A outer s H hr => ⟨_, (qss_cons (qs_set (i := 3) sc_run.nd rfl (.inl rfl) qe_int)
      (qss_cons (qs_while PassesOwn.never (qt_cmp od_isNot (qv 3) qe_non (nomark _))
      (qss_cons (qs_asg (qe_ix xd_ix (qv 1) (qv 3) (fun _ _ => rfl)) (qg_of (pg_tup rfl (pgs_cons (pg_name (i := 4) sc_run.nd rfl (.inl rfl)) (pgs_cons (pg_name (i := 5) sc_run.nd rfl (.inl rfl)) pgs_nil))) (tg_names (is := [4, 5]) (ws := [4, 5]) (by decide) rfl)))
      (qss_cons (qs_set (i := 2) sc_run.nd rfl (.inl rfl) (qe_call (ok_row_done T) (hr.mono (by omega)) rfl T.g_row_done T.F_row_done.kp T.b_row_done (qa_cons (qv 0) (qa_cons (qv 2) (qa_cons (qv 4) qa_nil)))))
      (qss_cons (qs_if (qt_cmp (od_eq hr.units) (qe_ix xd_ix (qv 2) qe_int (fun _ _ => rfl)) qe_str (nomark _))
      (qss_one (qs_ret (qv 2)))
      qss_nil)
      (qss_cons (qs_set (i := 3) sc_run.nd rfl (.inl rfl) qe_non)
      (qss_one (qs_if (qt_cmp (od_eq hr.units) (qe_ix xd_ix (qv 5) qe_int (fun _ _ => rfl)) qe_str (nomark _))
      (qss_one (qs_set (i := 3) sc_run.nd rfl (.inl rfl) (qe_ix xd_ix (qv 5) qe_int (fun _ _ => rfl))))
      (qss_one (qs_if (qt_cmp (od_eq hr.units) (qe_ix xd_ix (qv 5) qe_int (fun _ _ => rfl)) qe_str (nomark _))
      (qss_one (qs_set (i := 3) sc_run.nd rfl (.inl rfl) (qe_ifExp (qt_cmp (od_ne hr.units) (qe_call (ok_word_at_programs T) (hr.mono (by omega)) rfl T.g_word_at_programs T.F_word_at_programs.kp T.b_word_at_programs (qa_cons (qv 0) (qa_cons (qv 2) (qa_cons (qe_ix xd_ix (qv 5) qe_int (fun _ _ => rfl)) qa_nil)))) qe_int (nomark _)) (qe_ix xd_ix (qv 5) qe_int (fun _ _ => rfl)) (qe_ix xd_ix (qv 5) qe_int (fun _ _ => rfl)))))
      qss_nil)))))))))
      (qss_one (qs_ret (qv 2))))), fun ds G R h => ?_⟩)
  · obtain ⟨M, W, rfl, _⟩ := h; rfl
  · obtain ⟨M, W, rfl, hM, hW, h⟩ := h
    refine seq_one ?_
    refine seq_cut (fun σ' G' => ∃ (x3 x4 x5 : Option D), σ' = [some M.d, some noneD, some W.d, x3, x4, x5] ∧ G' = G) ?_ (fun N1 hN1 => ?_)
    · rintro σ' G' ⟨x3, x4, x5, rfl, rfl⟩
      walk_at "go"
      exact h
    rw [x_while]
    refine ⟨_, wh_go (fun m σ' G' => ∃ (num : D) (x4 x5 : Option D), σ' = [some M.d, some noneD, some W.d, some num, x4, x5] ∧ G' = G ∧ (num = .non ∧ m = 0 ∨ num = .int 0 ∧ m = 1)) ?turn 1 _ _ ⟨.int 0, none, none, rfl, rfl, .inr ⟨rfl, rfl⟩⟩⟩
    case turn =>
      rintro m σ' G' ⟨num, x4, x5, rfl, rfl, hnum⟩ N hN
      rcases hnum with ⟨rfl, rfl⟩ | ⟨rfl, rfl⟩
      · walk_at "go"
        exact hN1 _ _ ⟨_, _, _, rfl, rfl⟩
      · unfold noneD
        walk_at "go"
        refine go_row_done (os := []) hM hW (by simp) (by simp) ?_
        rw [show outD M W [] = .tup [.tup (W.vis.map .int), intsD W.hid, intsD W.mem] from rfl]
        have pyv := ints_py W.vis
        walk_at "go"
        refine eq_ts pyv.1 (by omega) (py_of _) ?_
        rw [show D.tup [.tup (W.vis.map .int), intsD W.hid, intsD W.mem] = W.d from rfl]
        walk_at "go"
        exact hN 0 _ _ rfl ⟨.non, _, _, rfl, rfl, .inl ⟨rfl, rfl⟩⟩
theorem go_run {M : Mach} {W : Wld} {G : Gp} {R : DK} (hM : M.ok) (hW : W.ok M) (h : R W.d G) : sp_run [M.d, noneD, W.d] G R := ⟨M, W, rfl, hM, hW, h⟩
end K68


set_option Elab.async false
set_option linter.all false
set_option maxRecDepth 100000
set_option maxHeartbeats 4000000
set_option autoImplicit false
namespace K68
open PySem PySem.Spec PyProof.Rows L2 DL
local macro_rules | `(tactic| walk_at "d") => `(tactic| dsimp only [dSeq, dNext, dIfS, dRet, dRetN, dAsg, dName, dVar, dC, dOp, dUn, dChain, dB, dAnd, dOr, dNot, dAndV, dOrV, dNotV, dIf, dNil, dCons, dTup, dLst, newL, dCallB, dCall, dCallK, dDrop, dAug, dAugS, dSub, dM, dM0, dSlice, dNoPart, dPart, dLc, dYes, dFor, dIter, dRng1, dEnum, dZipM, srcD, dStar, dInK, dIxK, dLenSet, dRev,
  startD, wipeD, setAll, dNames, List.map_cons, List.map_nil, List.length_cons, List.length_nil, List.replicate, List.cons_append, List.nil_append, List.append_nil, List.getElem?_cons_zero, List.getElem?_cons_succ, List.set_cons_zero, List.set_cons_succ, List.map, Nat.zero_add, Nat.reduceAdd, Nat.reduceSub, Nat.sub_self, Nat.succ_sub_succ_eq_sub])
local macro_rules | `(tactic| walk_at "o") => `(tactic| simp only [dAdd_ii, dAdd_ss, dAdd_tt, dAdd_ll, dMinus_ii, dMul_ii, dMod_ii, dFdiv_ii, dPow_ii, dShl_ii, dNeg_i, dIadd_ii, dLt_ii, dLe_ii, dGt_ii, dGe_ii, dEq_ii, dNe_ii, dEq_ss, dNe_ss, dEq_bb, dNe_bb, dIs_n, dIsNot_n, dMax2_ii, dMin2_ii, dTuple_t, dTuple_l, dList_t, dList_l, dIx_t, dIx_l, dIx_s, dSl_t, dSl_l, dSl_s, newL_f, len_tup, len_lst])
local macro_rules | `(tactic| walk_at "w") => `(tactic| dsimp only [x_var, x_c, x_op, x_un, x_b, x_and, x_or, x_not, x_chain, x_andV, x_orV, x_notV, x_if, x_nil, x_cons, x_tup, x_lst0, x_lst1, x_callB, x_call, x_callK, x_next, x_seq, x_break, x_cont, x_drop, x_ret, x_ifS, x_asg, x_name, x_names, x_sub, x_aug, x_augS, x_for, x_lc0, x_lc1, x_yes, x_noPart, x_part, x_slice, x_iter, it_t, it_l, it_n, it_s, it_r, x_rng1, x_enum, x_rev, x_m, x_m0, x_mX, x_zip, x_star_t, x_star_l, x_lenSet, x_forgo0, x_lcgo0, x_while, x_par, x_sortK,
  br_t, br_f, isB_bl, isI_int, isN_some, slo_some, atL_lst, ix_t, ix_l, ix_n,
  dAdd_ii, dAdd_ss, dAdd_tt, dAdd_ll, dMinus_ii, dMul_ii, dMod_ii, dFdiv_ii, dPow_ii, dShl_ii, dNeg_i, dIadd_ii, dLt_ii, dLe_ii, dGt_ii, dGe_ii, ltE_ii, ltE_ss, srcD, isi_i, isi_s, isi_b, isi_n, isi_t, isi_nt, isi_l, isi2_i, isi2_s, isi2_b, isi2_n, isi2_t, isi2_nt, isi2_l, inon_n, inon_i, inon_s, inon_b, inon_t, inon_l, inon_r, dEq_ii, dNe_ii, dEq_ss, dNe_ss, dEq_bb, dNe_bb, dIs_n, dIsNot_n, dMax2_ii, dMin2_ii, dTuple_t, dTuple_l, dList_t, dList_l, dSl_t, dSl_l, dSl_s, newL_f, newL_t, app_r, int_b, int_i, strI_i, strX_i, strX_s,
  startD, wipeD, setAll, permL, List.filterMap, List.map_cons, List.map_nil, List.length_cons, List.length_nil, List.replicate, List.cons_append, List.nil_append, List.append_nil, List.getElem?_cons_zero, List.getElem?_cons_succ, List.set_cons_zero, List.set_cons_succ, List.map, Nat.zero_add, Nat.reduceAdd, Nat.reduceSub, Nat.sub_self, Nat.succ_sub_succ_eq_sub])
local macro_rules | `(tactic| walk_at "v") => `(tactic| simp only [ofString_inj, String.reduceEq, at_0, at_1, at_2, at_3, at_4, at_5, isN_some, isBB_bl, isB_bl, br_t, br_f, br_not, br_and, br_or, br_dec, ix_r, len_tup, len_lst, len_nt, ltE_key, gup_gup, gup_same, starD_one, cut1, cut2, kt1, kt2, kt3, kt4, kt5, kt6, isTy, String.reduceBEq, Bool.or_false, Bool.false_or, Bool.true_or, Bool.or_true, Bool.and_false, Bool.false_and, Bool.true_and, Bool.and_true, Bool.not_true, Bool.not_false, decide_true, decide_false, eq_self_iff_true, Bool.false_eq_true, Int.reduceAdd, Int.add_zero, if_true, if_false, true_and, and_true])
local macro_rules | `(tactic| walk_at "side") => `(tactic| first | with_reducible assumption | omega | exact mty_up | exact True.intro | (simp only [List.mem_cons, ofString_inj, String.reduceEq, true_or, or_true, List.length_map]; done) | with_reducible exact (rfl : (_ : Nat) = _) | exact (rfl : (_ : Option String) = _) | (refine small_line ?_; omega) | (walk_at "ll"; first | omega | (refine small_line ?_; omega) | fail) | (exact log_small (by omega)) | fail)
local macro_rules | `(tactic| walk_at "x") => `(tactic| fail)
local macro_rules | `(tactic| walk_at "go") => `(tactic| repeat' (first | dsimp only [x_var, x_c, x_op, x_un, x_b, x_and, x_or, x_not, x_chain, x_andV, x_orV, x_notV, x_if, x_nil, x_cons, x_tup, x_lst0, x_lst1, x_callB, x_call, x_callK, x_next, x_seq, x_break, x_cont, x_drop, x_ret, x_ifS, x_asg, x_name, x_names, x_sub, x_aug, x_augS, x_for, x_lc0, x_lc1, x_yes, x_noPart, x_part, x_slice, x_iter, it_t, it_l, it_n, it_s, it_r, x_rng1, x_enum, x_rev, x_m, x_m0, x_mX, x_zip, x_star_t, x_star_l, x_lenSet, x_forgo0, x_lcgo0, x_while, x_par, x_sortK, br_t, br_f, isB_bl, isI_int, isN_some, slo_some, atL_lst, ix_t, ix_l, ix_n, dAdd_ii, dAdd_ss, dAdd_tt, dAdd_ll, dMinus_ii, dMul_ii, dMod_ii, dFdiv_ii, dPow_ii, dShl_ii, dNeg_i, dIadd_ii, dLt_ii, dLe_ii, dGt_ii, dGe_ii, ltE_ii, ltE_ss, srcD, isi_i, isi_s, isi_b, isi_n, isi_t, isi_nt, isi_l, isi2_i, isi2_s, isi2_b, isi2_n, isi2_t, isi2_nt, isi2_l, inon_n, inon_i, inon_s, inon_b, inon_t, inon_l, inon_r, dEq_ii, dNe_ii, dEq_ss, dNe_ss, dEq_bb, dNe_bb, dIs_n, dIsNot_n, dMax2_ii, dMin2_ii, dTuple_t, dTuple_l, dList_t, dList_l, dSl_t, dSl_l, dSl_s, newL_f, newL_t, app_r, int_b, int_i, strI_i, strX_i, strX_s, startD, wipeD, setAll, permL, List.filterMap, List.map_cons, List.map_nil, List.length_cons, List.length_nil, List.replicate, List.cons_append, List.nil_append, List.append_nil, List.getElem?_cons_zero, List.getElem?_cons_succ, List.set_cons_zero, List.set_cons_succ, List.map, Nat.zero_add, Nat.reduceAdd, Nat.reduceSub, Nat.sub_self, Nat.succ_sub_succ_eq_sub] | simp only [ofString_inj, String.reduceEq, at_0, at_1, at_2, at_3, at_4, at_5, isN_some, isBB_bl, isB_bl, br_t, br_f, br_not, br_and, br_or, br_dec, ix_r, len_tup, len_lst, len_nt, ltE_key, gup_gup, gup_same, starD_one, cut1, cut2, kt1, kt2, kt3, kt4, kt5, kt6, isTy, String.reduceBEq, Bool.or_false, Bool.false_or, Bool.true_or, Bool.or_true, Bool.and_false, Bool.false_and, Bool.true_and, Bool.and_true, Bool.not_true, Bool.not_false, decide_true, decide_false, eq_self_iff_true, Bool.false_eq_true, Int.reduceAdd, Int.add_zero, if_true, if_false, true_and, and_true] | walk_at "x" | with_reducible refine kont_go ?_ | with_reducible refine rt_sub (by assumption) ?_ | with_reducible refine rt_lst (by assumption) ?_ | with_reducible refine rt_drop (by assumption) ?_ | with_reducible refine rt_keep (by assumption) (by assumption) ?_ | with_reducible refine rt_same ?_ | (refine fun (p : Addr) (_ : _ = none) => ?_) | refine join_gor gup_same rfl (by walk_at "side") ?_ | with_reducible refine lc_cons ?_ | with_reducible refine for_cons ?_ | refine join_go rfl (by walk_at "side") ?_ | refine And.intro (by first | with_reducible assumption | omega | exact mty_up | exact True.intro | (simp only [List.mem_cons, ofString_inj, String.reduceEq, true_or, or_true, List.length_map]; done) | with_reducible exact (rfl : (_ : Nat) = _) | exact (rfl : (_ : Option String) = _) | (refine small_line ?_; omega) | (walk_at "ll"; first | omega | (refine small_line ?_; omega) | fail) | (exact log_small (by omega)) | fail) ?_ | fail))
local macro_rules | `(tactic| walk_at "ll") => `(tactic| simp only [List.length_map, List.length_append, List.length_cons, List.length_nil, List.map_cons, List.map_nil, List.sum_cons, List.sum_nil, len_app, rng_length, ll_0, ll_1, ll_2, ll_3, ll_4, ll_5, ll_6, ll_7, ll_8, ll_9, ll_10, ll_11, ll_12, ll_13, ll_14, ll_15, ll_16, ll_17, ll_18, ll_19, ll_20, ll_21, ll_22, ll_23, ll_24, ll_25, ll_26, ll_27, ll_28, ll_29, ll_30, ll_31, ll_32, ll_33, ll_34])
/-! ### all words -/
def allW (t : Nat) : Nat → List (List Int)
  | 0 => [[]]
  | m + 1 => (allW t m).flatMap fun row => (List.range t).map fun (w : Nat) => row ++ [(w : Int)]
theorem flat_len (t : Nat) (l : List (List Int)) : (l.flatMap fun row => (List.range t).map fun (w : Nat) => row ++ [(w : Int)]).length = l.length * t := by
  induction l with
  | nil => simp
  | cons x l ih => rw [List.flatMap_cons, List.length_append, ih, List.length_map, List.length_range, List.length_cons, Nat.add_mul, Nat.one_mul, Nat.add_comm]
theorem allW_length (t : Nat) : ∀ m, (allW t m).length = t ^ m
  | 0 => rfl
  | m + 1 => by rw [allW, flat_len, allW_length t m, Nat.pow_succ]
def wordsD (l : List Int) : D := .tup (l.map .int)
theorem rngD_nat (n : Nat) : rng 0 n = (List.range n).map fun i => D.int (i : Nat) := by unfold rng; exact List.map_congr_left fun i _ => by rw [Int.zero_add]
theorem lc2_words {t : Nat} {G : Gp} {x0 x1 x3 x4 : Option D} (ht : t ≤ 4096) : ∀ (rows acc : List (List Int)) (Q : List D → Gp → Prop), (∀ r ∈ rows, r.length ≤ 100) → acc.length + rows.length * t ≤ 100000 → Q ((acc ++ rows.flatMap fun row => (List.range t).map fun (w : Nat) => row ++ [(w : Int)]).map wordsD) G →
    dLc2Go (dName 5) dYes (dRng1S (dCons (dVar 2) dNil)) (dName 6) dYes (dOp (dAdd false) (dVar 5) (dTup (dCons (dVar 6) dNil))) [6] (fun _ => True) [x0, x1, some (.int (t : Nat)), x3, x4, none, none] (rows.map wordsD) (acc.map wordsD) G Q
  | [], acc, Q, _, _, q => ⟨True.intro, by simpa using q⟩
  | r :: rows, acc, Q, hr, hl, q => by
    have hl' : acc.length + t + rows.length * t ≤ 100000 := by rw [List.length_cons, Nat.add_mul, Nat.one_mul] at hl; omega
    refine ⟨True.intro, ?_⟩
    show -(2 ^ 62) ≤ ((t : Nat) : Int) ∧ ((t : Nat) : Int) < 2 ^ 62 ∧ (acc.map wordsD).length + (rng 0 ((t : Nat) : Int).toNat).length ≤ sizeLine ∧ dLcGo (dName 6) dYes (dOp (dAdd false) (dVar 5) (dTup (dCons (dVar 6) dNil))) (fun _ => True) [x0, x1, some (.int (t : Nat)), x3, x4, some (wordsD r), none] (rng 0 ((t : Nat) : Int).toNat) (acc.map wordsD) G _
    rw [Int.toNat_natCast, rng_length, List.length_map]
    refine ⟨by omega, by omega, by rw [sizeLine_eq]; omega, ?_⟩
    rw [rngD_nat]
    refine lc_go (fun xs acc' G' => ∃ (pre ws : List Nat), pre ++ ws = List.range t ∧ xs = ws.map (fun i => D.int (i : Nat)) ∧ acc' = (acc ++ pre.map fun (w : Nat) => r ++ [(w : Int)]).map wordsD ∧ G' = G) ?turn ?fin _ _ _ ⟨[], List.range t, rfl, rfl, by simp, rfl⟩
    case turn =>
      rintro x xs acc' G' ⟨pre, ws, e, ex, rfl, rfl⟩
      cases ws with
      | nil => simp at ex
      | cons w ws =>
        rw [List.map_cons, List.cons.injEq] at ex
        obtain ⟨rfl, rfl⟩ := ex
        refine ⟨True.intro, fun N hN => ?_⟩
        have ew : wordsD r = .tup (r.map .int) := rfl
        rw [ew]
        walk_at "go"
        refine ⟨by rw [sizeLine_eq]; simp only [List.length_map, List.length_cons, List.length_nil]; have := hr r List.mem_cons_self; omega, hN _ _ ⟨pre ++ [w], ws, by rw [List.append_assoc]; exact e, rfl, ?_, rfl⟩⟩
        simp [wordsD]
    case fin =>
      rintro acc' G' ⟨pre, ws, e, ex, rfl, rfl⟩
      have ew : ws = [] := by simpa using ex.symm
      subst ew
      rw [List.append_nil] at e
      subst e
      refine ⟨True.intro, ?_⟩
      refine lc2_words ht rows (acc ++ (List.range t).map fun (w : Nat) => r ++ [(w : Int)]) Q (fun r' h' => hr r' (List.mem_cons_of_mem _ h')) (by rw [List.length_append, List.length_map, List.length_range]; exact hl') ?_
      rw [List.flatMap_cons, ← List.append_assoc] at q
      exact q
theorem allW_row (t : Nat) : ∀ m, ∀ r ∈ allW t m, r.length = m
  | 0, r, h => by simp [allW] at h; subst h; rfl
  | m + 1, r, h => by
    simp only [allW, List.mem_flatMap, List.mem_map] at h
    obtain ⟨r0, h0, w, _, rfl⟩ := h
    rw [List.length_append, allW_row t m r0 h0]; rfl
theorem pow_small {b m : Nat} (h : b * m ≤ 12) : (2 ^ b) ^ m ≤ 4096 := by
  rw [← Nat.pow_mul]
  exact Nat.le_trans (Nat.pow_le_pow_right (by omega) h) (by decide)
def sp_all_words : DSp := fun ds G R => ∃ b m : Nat, ds = [.int b, .int m] ∧ b ≤ 12 ∧ m ≤ 12 ∧ b * m ≤ 12 ∧ R (.lst ((allW (2 ^ b) m).map wordsD)) G
theorem ok_all_words {P : Program} {w : World} {K : PySem.W.Frag} {mg : Str → Option Value} {base : Heap} {a : Ad} (T : Tx w K mg a) : FnD P w K mg base 1 a.f_all_words a.fd_all_words ["bits", "many"] sp_all_words := by
  refine fun_okD T.F_all_words sc_all_words (fun ds G R h => ?_) (fun cdv A outer s H hr => ⟨_, (qss_cons (qs_set (i := 2) sc_all_words.nd rfl (.inr rfl) qe_int)
      (qss_cons (qs_for PassesOwn.never rfl (qi_range1 rfl T.n_range (qa_cons (qv 0) qa_nil)) (qg_of (pg_name (i := 3) sc_all_words.nd rfl (.inl rfl)) (tg_name (i := 3) (ws := [3]) (by decide)))
      (qss_one (qs_set (i := 2) sc_all_words.nd rfl (.inr rfl) (qe_op od_mul (qv 2) qe_int))))
      (qss_cons (qs_set (i := 4) sc_all_words.nd rfl (.inl rfl) (qe_lst false (qa_cons (qe_tup qa_nil) qa_nil)))
      (qss_cons (qs_for PassesOwn.never rfl (qi_range1 rfl T.n_range (qa_cons (qv 1) qa_nil)) (qg_of (pg_name (i := 3) sc_all_words.nd rfl (.inl rfl)) (tg_name (i := 3) (ws := [3]) (by decide)))
      (qss_one (qs_setLc2 false (i := 4) rfl sc_all_words.nd rfl rfl (sw_true rfl rfl rfl (by decide +kernel)) (qi_seq (qv 4)) (blkOk_by (own := [("row", 5), ("word", 6)]) (N := N_all_words) (sc := defScope s_all_words) (by decide +kernel)) (vs1 := [6]) (by decide) (fun _ _ _ _ _ => (pg_name (i := 5) sc_all_words.nd rfl (.inl rfl))) (tg_name (i := 5) (by decide)) (fun _ _ _ _ _ => qts_nil) (fun _ _ _ _ _ => (qis_range1 rfl T.n_range (qa_cons (qv 2) qa_nil))) (fun _ _ _ _ _ => (pg_name (i := 6) sc_all_words.nd rfl (.inl rfl))) (tg_name (i := 6) (by decide)) (fun _ _ _ _ _ => qts_nil) (fun _ _ _ _ _ => (qe_op (od_add false) (qv 5) (qe_tup (qa_cons (qv 6) qa_nil)))))))
      (qss_one (qs_ret (qv 4))))))), fun ds G R h => ?_⟩)
  · obtain ⟨b, m, rfl, _⟩ := h; rfl
  · obtain ⟨b, m, rfl, hb, hm, hbm, h⟩ := h
    have htop : 2 ^ b ≤ 4096 := Nat.le_trans (Nat.pow_le_pow_right (by omega) hb) (by decide)
    walk_at "go"
    rw [Int.toNat_natCast]
    refine for_rng b (fun k σ' G' => ∃ x3, σ' = [some (.int (b : Nat)), some (.int (m : Nat)), some (.int ((2 ^ k : Nat) : Int)), x3, none, none, none] ∧ G' = G) ?turn ?fin _ _ ⟨none, rfl, rfl⟩
    case turn =>
      rintro k σ' G' hk ⟨x3, rfl, rfl⟩ N hN
      walk_at "go"
      have e2 : (((2 ^ (k + 1) : Nat)) : Int) = ((2 ^ k : Nat) : Int) * 2 := by rw [Nat.pow_succ, Int.natCast_mul]; rfl
      refine ⟨mul_ok' (by omega) (by omega), hN _ _ ⟨some (.int (k : Nat)), ?_, rfl⟩⟩
      rw [e2]
    case fin =>
      rintro σ' G' ⟨x3, rfl, rfl⟩
      walk_at "go"
      try rw [Int.toNat_natCast]
      refine for_rng m (fun k σ' G1 => ∃ x3, σ' = [some (.int (b : Nat)), some (.int (m : Nat)), some (.int ((2 ^ b : Nat) : Int)), x3, some (.lst ((allW (2 ^ b) k).map wordsD)), none, none] ∧ G1 = G') ?turn2 ?fin2 _ _ ⟨x3, rfl, rfl⟩
      case turn2 =>
        rintro k σ' G1 hk ⟨x3, rfl, rfl⟩ N hN
        walk_at "go"
        have hp : (2 ^ b) ^ k * 2 ^ b ≤ 4096 := by
          rw [← Nat.pow_succ]
          exact pow_small (Nat.le_trans (Nat.mul_le_mul_left b hk) hbm)
        refine lc2_words (acc := []) htop (allW (2 ^ b) k) _ (fun r h' => by rw [allW_row _ _ _ h']; omega) (by rw [allW_length]; simp only [List.length_nil]; omega) ?_
        exact hN _ _ ⟨_, rfl, rfl⟩
      case fin2 =>
        rintro σ' G1 ⟨x3, rfl, rfl⟩
        walk_at "go"
        exact h
theorem go_all_words {b m : Nat} {G : Gp} {R : DK} (hb : b ≤ 12) (hm : m ≤ 12) (hbm : b * m ≤ 12) (h : R (.lst ((allW (2 ^ b) m).map wordsD)) G) : sp_all_words [.int b, .int m] G R := ⟨b, m, rfl, hb, hm, hbm, h⟩
end K68


set_option Elab.async false
set_option linter.all false
set_option maxRecDepth 100000
set_option maxHeartbeats 4000000
set_option autoImplicit false
namespace K68
open PySem PySem.Spec PyProof.Rows L2 DL
local macro_rules | `(tactic| walk_at "d") => `(tactic| dsimp only [dSeq, dNext, dIfS, dRet, dRetN, dAsg, dName, dVar, dC, dOp, dUn, dChain, dB, dAnd, dOr, dNot, dAndV, dOrV, dNotV, dIf, dNil, dCons, dTup, dLst, newL, dCallB, dCall, dCallK, dDrop, dAug, dAugS, dSub, dM, dM0, dSlice, dNoPart, dPart, dLc, dYes, dFor, dIter, dRng1, dEnum, dZipM, srcD, dStar, dInK, dIxK, dLenSet, dRev,
  startD, wipeD, setAll, dNames, List.map_cons, List.map_nil, List.length_cons, List.length_nil, List.replicate, List.cons_append, List.nil_append, List.append_nil, List.getElem?_cons_zero, List.getElem?_cons_succ, List.set_cons_zero, List.set_cons_succ, List.map, Nat.zero_add, Nat.reduceAdd, Nat.reduceSub, Nat.sub_self, Nat.succ_sub_succ_eq_sub])
local macro_rules | `(tactic| walk_at "o") => `(tactic| simp only [dAdd_ii, dAdd_ss, dAdd_tt, dAdd_ll, dMinus_ii, dMul_ii, dMod_ii, dFdiv_ii, dPow_ii, dShl_ii, dNeg_i, dIadd_ii, dLt_ii, dLe_ii, dGt_ii, dGe_ii, dEq_ii, dNe_ii, dEq_ss, dNe_ss, dEq_bb, dNe_bb, dIs_n, dIsNot_n, dMax2_ii, dMin2_ii, dTuple_t, dTuple_l, dList_t, dList_l, dIx_t, dIx_l, dIx_s, dSl_t, dSl_l, dSl_s, newL_f, len_tup, len_lst])
local macro_rules | `(tactic| walk_at "w") => `(tactic| dsimp only [x_var, x_c, x_op, x_un, x_b, x_and, x_or, x_not, x_chain, x_andV, x_orV, x_notV, x_if, x_nil, x_cons, x_tup, x_lst0, x_lst1, x_callB, x_call, x_callK, x_next, x_seq, x_break, x_cont, x_drop, x_ret, x_ifS, x_asg, x_name, x_names, x_sub, x_aug, x_augS, x_for, x_lc0, x_lc1, x_yes, x_noPart, x_part, x_slice, x_iter, it_t, it_l, it_n, it_s, it_r, x_rng1, x_enum, x_rev, x_m, x_m0, x_mX, x_zip, x_star_t, x_star_l, x_lenSet, x_forgo0, x_lcgo0, x_while, x_par, x_sortK,
  br_t, br_f, isB_bl, isI_int, isN_some, slo_some, atL_lst, ix_t, ix_l, ix_n,
  dAdd_ii, dAdd_ss, dAdd_tt, dAdd_ll, dMinus_ii, dMul_ii, dMod_ii, dFdiv_ii, dPow_ii, dShl_ii, dNeg_i, dIadd_ii, dLt_ii, dLe_ii, dGt_ii, dGe_ii, ltE_ii, ltE_ss, srcD, isi_i, isi_s, isi_b, isi_n, isi_t, isi_nt, isi_l, isi2_i, isi2_s, isi2_b, isi2_n, isi2_t, isi2_nt, isi2_l, inon_n, inon_i, inon_s, inon_b, inon_t, inon_l, inon_r, dEq_ii, dNe_ii, dEq_ss, dNe_ss, dEq_bb, dNe_bb, dIs_n, dIsNot_n, dMax2_ii, dMin2_ii, dTuple_t, dTuple_l, dList_t, dList_l, dSl_t, dSl_l, dSl_s, newL_f, newL_t, app_r, int_b, int_i, strI_i, strX_i, strX_s,
  startD, wipeD, setAll, permL, List.filterMap, List.map_cons, List.map_nil, List.length_cons, List.length_nil, List.replicate, List.cons_append, List.nil_append, List.append_nil, List.getElem?_cons_zero, List.getElem?_cons_succ, List.set_cons_zero, List.set_cons_succ, List.map, Nat.zero_add, Nat.reduceAdd, Nat.reduceSub, Nat.sub_self, Nat.succ_sub_succ_eq_sub])
local macro_rules | `(tactic| walk_at "v") => `(tactic| simp only [ofString_inj, String.reduceEq, at_0, at_1, at_2, at_3, at_4, at_5, isN_some, isBB_bl, isB_bl, br_t, br_f, br_not, br_and, br_or, br_dec, ix_r, len_tup, len_lst, len_nt, ltE_key, gup_gup, gup_same, starD_one, cut1, cut2, kt1, kt2, kt3, kt4, kt5, kt6, isTy, String.reduceBEq, Bool.or_false, Bool.false_or, Bool.true_or, Bool.or_true, Bool.and_false, Bool.false_and, Bool.true_and, Bool.and_true, Bool.not_true, Bool.not_false, decide_true, decide_false, eq_self_iff_true, Bool.false_eq_true, Int.reduceAdd, Int.add_zero, if_true, if_false, true_and, and_true])
local macro_rules | `(tactic| walk_at "side") => `(tactic| first | with_reducible assumption | omega | exact mty_up | exact True.intro | (simp only [List.mem_cons, ofString_inj, String.reduceEq, true_or, or_true, List.length_map]; done) | with_reducible exact (rfl : (_ : Nat) = _) | exact (rfl : (_ : Option String) = _) | (refine small_line ?_; omega) | (walk_at "ll"; first | omega | (refine small_line ?_; omega) | fail) | (exact log_small (by omega)) | fail)
local macro_rules | `(tactic| walk_at "x") => `(tactic| fail)
local macro_rules | `(tactic| walk_at "go") => `(tactic| repeat' (first | dsimp only [x_var, x_c, x_op, x_un, x_b, x_and, x_or, x_not, x_chain, x_andV, x_orV, x_notV, x_if, x_nil, x_cons, x_tup, x_lst0, x_lst1, x_callB, x_call, x_callK, x_next, x_seq, x_break, x_cont, x_drop, x_ret, x_ifS, x_asg, x_name, x_names, x_sub, x_aug, x_augS, x_for, x_lc0, x_lc1, x_yes, x_noPart, x_part, x_slice, x_iter, it_t, it_l, it_n, it_s, it_r, x_rng1, x_enum, x_rev, x_m, x_m0, x_mX, x_zip, x_star_t, x_star_l, x_lenSet, x_forgo0, x_lcgo0, x_while, x_par, x_sortK, br_t, br_f, isB_bl, isI_int, isN_some, slo_some, atL_lst, ix_t, ix_l, ix_n, dAdd_ii, dAdd_ss, dAdd_tt, dAdd_ll, dMinus_ii, dMul_ii, dMod_ii, dFdiv_ii, dPow_ii, dShl_ii, dNeg_i, dIadd_ii, dLt_ii, dLe_ii, dGt_ii, dGe_ii, ltE_ii, ltE_ss, srcD, isi_i, isi_s, isi_b, isi_n, isi_t, isi_nt, isi_l, isi2_i, isi2_s, isi2_b, isi2_n, isi2_t, isi2_nt, isi2_l, inon_n, inon_i, inon_s, inon_b, inon_t, inon_l, inon_r, dEq_ii, dNe_ii, dEq_ss, dNe_ss, dEq_bb, dNe_bb, dIs_n, dIsNot_n, dMax2_ii, dMin2_ii, dTuple_t, dTuple_l, dList_t, dList_l, dSl_t, dSl_l, dSl_s, newL_f, newL_t, app_r, int_b, int_i, strI_i, strX_i, strX_s, startD, wipeD, setAll, permL, List.filterMap, List.map_cons, List.map_nil, List.length_cons, List.length_nil, List.replicate, List.cons_append, List.nil_append, List.append_nil, List.getElem?_cons_zero, List.getElem?_cons_succ, List.set_cons_zero, List.set_cons_succ, List.map, Nat.zero_add, Nat.reduceAdd, Nat.reduceSub, Nat.sub_self, Nat.succ_sub_succ_eq_sub] | simp only [ofString_inj, String.reduceEq, at_0, at_1, at_2, at_3, at_4, at_5, isN_some, isBB_bl, isB_bl, br_t, br_f, br_not, br_and, br_or, br_dec, ix_r, len_tup, len_lst, len_nt, ltE_key, gup_gup, gup_same, starD_one, cut1, cut2, kt1, kt2, kt3, kt4, kt5, kt6, isTy, String.reduceBEq, Bool.or_false, Bool.false_or, Bool.true_or, Bool.or_true, Bool.and_false, Bool.false_and, Bool.true_and, Bool.and_true, Bool.not_true, Bool.not_false, decide_true, decide_false, eq_self_iff_true, Bool.false_eq_true, Int.reduceAdd, Int.add_zero, if_true, if_false, true_and, and_true] | walk_at "x" | with_reducible refine kont_go ?_ | with_reducible refine rt_sub (by assumption) ?_ | with_reducible refine rt_lst (by assumption) ?_ | with_reducible refine rt_drop (by assumption) ?_ | with_reducible refine rt_keep (by assumption) (by assumption) ?_ | with_reducible refine rt_same ?_ | (refine fun (p : Addr) (_ : _ = none) => ?_) | refine join_gor gup_same rfl (by walk_at "side") ?_ | with_reducible refine lc_cons ?_ | with_reducible refine for_cons ?_ | refine join_go rfl (by walk_at "side") ?_ | refine And.intro (by first | with_reducible assumption | omega | exact mty_up | exact True.intro | (simp only [List.mem_cons, ofString_inj, String.reduceEq, true_or, or_true, List.length_map]; done) | with_reducible exact (rfl : (_ : Nat) = _) | exact (rfl : (_ : Option String) = _) | (refine small_line ?_; omega) | (walk_at "ll"; first | omega | (refine small_line ?_; omega) | fail) | (exact log_small (by omega)) | fail) ?_ | fail))
local macro_rules | `(tactic| walk_at "ll") => `(tactic| simp only [List.length_map, List.length_append, List.length_cons, List.length_nil, List.map_cons, List.map_nil, List.sum_cons, List.sum_nil, len_app, rng_length, ll_0, ll_1, ll_2, ll_3, ll_4, ll_5, ll_6, ll_7, ll_8, ll_9, ll_10, ll_11, ll_12, ll_13, ll_14, ll_15, ll_16, ll_17, ll_18, ll_19, ll_20, ll_21, ll_22, ll_23, ll_24, ll_25, ll_26, ll_27, ll_28, ll_29, ll_30, ll_31, ll_32, ll_33, ll_34])
/-! ### does otherwise -/
theorem eqs_ints : ∀ l l' : List Int, eqDs (l.map D.int) (l'.map D.int) = decide (l = l')
  | [], [] => by rw [List.map_nil, eqs_nil]; rfl
  | [], x :: l' => by rw [List.map_nil, List.map_cons, eqs_nc]; rfl
  | x :: l, [] => by rw [List.map_nil, List.map_cons, eqs_cn]; rfl
  | x :: l, y :: l' => by
    rw [List.map_cons, List.map_cons, eqs_cons, eq_i, eqs_ints l l', Bool.eq_iff_iff]
    simp only [Bool.and_eq_true, decide_eq_true_eq, List.cons.injEq]
theorem eq_outP (p q : List Int × List Int) : eqD (outP p) (outP q) = decide (p = q) := by
  unfold outP intsD
  rw [eq_tt, eqs_cons, eqs_cons, eqs_nil, eq_tt, eq_tt, eqs_ints, eqs_ints, Bool.eq_iff_iff]
  simp only [Bool.and_eq_true, decide_eq_true_eq, Prod.ext_iff, and_true]
theorem outP_pyd (p : List Int × List Int) : pyD (outP p) = true ∧ depD (outP p) ≤ 64 := by
  have i1 := ints_py p.1; have i2 := ints_py p.2
  have j1 := i1.2; have j2 := i2.2
  simp only [outP, intsD, pyD, pyDs, depD, depDs, i1.1, i2.1]
  exact ⟨rfl, by omega⟩
def sp_does_otherwise : DSp := fun ds G R => ∃ (M : Mach) (W : Wld) (m : Mn) (p : List Int × List Int), ds = [M.d, m.d, noneD, W.d] ∧ M.ok ∧ W.ok M ∧ m.ok M ∧ m.lv ≤ 7 ∧ behF M W m = some p ∧ R (.bl (decide (p ≠ (W.vis, W.mem)))) G
theorem ok_does_otherwise {P : Program} {w : World} {K : PySem.W.Frag} {mg : Str → Option Value} {base : Heap} {a : Ad} (T : Tx w K mg a) : FnD P w K mg base 20 a.f_does_otherwise a.fd_does_otherwise ["machine", "meaning", "program", "state"] sp_does_otherwise := by
  refine fun_okD T.F_does_otherwise sc_does_otherwise (fun ds G R h => ?_) (fun cdv A outer s H hr => ⟨_, (qss_cons (qs_set (i := 4) sc_does_otherwise.nd rfl (.inl rfl) (qe_call (ok_meant T) (hr.mono (by omega)) rfl T.g_meant T.F_meant.kp T.b_meant (qa_cons (qv 0) (qa_cons (qv 1) (qa_cons (qv 3) qa_nil)))))
      (qss_cons (qs_set (i := 5) sc_does_otherwise.nd rfl (.inl rfl) (qe_call (ok_run T) (hr.mono (by omega)) rfl T.g_run T.F_run.kp T.b_run (qa_cons (qv 0) (qa_cons (qv 2) (qa_cons (qv 3) qa_nil)))))
      (qss_cons (qs_if (QW.pt (qw_or (qt_cmp (od_eq hr.units) (qe_ix xd_ix (qv 4) qe_int (fun _ _ => rfl)) qe_str (nomark _)) (qw_or1 (qt_cmp (od_eq hr.units) (qe_ix xd_ix (qv 5) qe_int (fun _ _ => rfl)) qe_str (nomark _)))))
      (qss_one (qs_ret (qe_cmp (od_ne hr.units) (qe_ix xd_ix (qv 4) qe_int (fun _ _ => rfl)) (qe_ix xd_ix (qv 5) qe_int (fun _ _ => rfl)) (nomark _))))
      qss_nil)
      (qss_one (qs_ret (qe_cmp (od_ne hr.units) (qe_tup (qa_cons (qe_ix xd_ix (qv 5) qe_int (fun _ _ => rfl)) (qa_cons (qe_ix xd_ix (qv 5) qe_int (fun _ _ => rfl)) qa_nil))) (qv 4) (nomark _))))))), fun ds G R h => ?_⟩)
  · obtain ⟨M, W, m, p, rfl, _⟩ := h; rfl
  · obtain ⟨M, W, m, p, rfl, hM, hW, hm, hl, hp, h⟩ := h
    have pyv := ints_py p.1
    have pyw := ints_py W.vis
    walk_at "go"
    refine go_meant hM hW hm hl ?_
    rw [show meantD M W m = .tup [.tup (p.1.map .int), intsD p.2] by unfold meantD; rw [hp]; rfl]
    walk_at "go"
    refine go_run hM hW ?_
    rw [show W.d = .tup [.tup (W.vis.map .int), intsD W.hid, intsD W.mem] from rfl]
    walk_at "go"
    refine eq_ts pyv.1 (by omega) (py_of _) ?_
    walk_at "go"
    refine eq_ts pyw.1 (by omega) (py_of _) ?_
    walk_at "go"
    rw [show D.tup [.tup (W.vis.map .int), intsD W.mem] = outP (W.vis, W.mem) from rfl, show D.tup [.tup (p.1.map .int), intsD p.2] = outP p from rfl]
    refine (ne_pure (outP_pyd _).1 (outP_pyd _).1 (outP_pyd _).2 (outP_pyd _).2).mpr ?_
    rw [eq_outP]
    have e : (!decide ((W.vis, W.mem) = p)) = decide (p ≠ (W.vis, W.mem)) := by
      rw [Bool.eq_iff_iff]
      simp only [Bool.not_eq_true', decide_eq_false_iff_not, decide_eq_true_eq]
      exact ⟨fun z y => z y.symm, fun z y => z y.symm⟩
    rw [e]
    walk_at "go"
    exact h
theorem go_otherwise {M : Mach} {W : Wld} {m : Mn} {p : List Int × List Int} {G : Gp} {R : DK} (hM : M.ok) (hW : W.ok M) (hm : m.ok M) (hl : m.lv ≤ 7) (hp : behF M W m = some p) (h : R (.bl (decide (p ≠ (W.vis, W.mem)))) G) : sp_does_otherwise [M.d, m.d, noneD, W.d] G R := ⟨M, W, m, p, rfl, hM, hW, hm, hl, hp, h⟩
end K68


set_option Elab.async false
set_option linter.all false
set_option maxRecDepth 100000
set_option maxHeartbeats 4000000
set_option autoImplicit false
namespace K68
open PySem PySem.Spec PyProof.Rows L2 DL
local macro_rules | `(tactic| walk_at "d") => `(tactic| dsimp only [dSeq, dNext, dIfS, dRet, dRetN, dAsg, dName, dVar, dC, dOp, dUn, dChain, dB, dAnd, dOr, dNot, dAndV, dOrV, dNotV, dIf, dNil, dCons, dTup, dLst, newL, dCallB, dCall, dCallK, dDrop, dAug, dAugS, dSub, dM, dM0, dSlice, dNoPart, dPart, dLc, dYes, dFor, dIter, dRng1, dEnum, dZipM, srcD, dStar, dInK, dIxK, dLenSet, dRev,
  startD, wipeD, setAll, dNames, List.map_cons, List.map_nil, List.length_cons, List.length_nil, List.replicate, List.cons_append, List.nil_append, List.append_nil, List.getElem?_cons_zero, List.getElem?_cons_succ, List.set_cons_zero, List.set_cons_succ, List.map, Nat.zero_add, Nat.reduceAdd, Nat.reduceSub, Nat.sub_self, Nat.succ_sub_succ_eq_sub])
local macro_rules | `(tactic| walk_at "o") => `(tactic| simp only [dAdd_ii, dAdd_ss, dAdd_tt, dAdd_ll, dMinus_ii, dMul_ii, dMod_ii, dFdiv_ii, dPow_ii, dShl_ii, dNeg_i, dIadd_ii, dLt_ii, dLe_ii, dGt_ii, dGe_ii, dEq_ii, dNe_ii, dEq_ss, dNe_ss, dEq_bb, dNe_bb, dIs_n, dIsNot_n, dMax2_ii, dMin2_ii, dTuple_t, dTuple_l, dList_t, dList_l, dIx_t, dIx_l, dIx_s, dSl_t, dSl_l, dSl_s, newL_f, len_tup, len_lst])
local macro_rules | `(tactic| walk_at "w") => `(tactic| dsimp only [x_var, x_c, x_op, x_un, x_b, x_and, x_or, x_not, x_chain, x_andV, x_orV, x_notV, x_if, x_nil, x_cons, x_tup, x_lst0, x_lst1, x_callB, x_call, x_callK, x_next, x_seq, x_break, x_cont, x_drop, x_ret, x_ifS, x_asg, x_name, x_names, x_sub, x_aug, x_augS, x_for, x_lc0, x_lc1, x_yes, x_noPart, x_part, x_slice, x_iter, it_t, it_l, it_n, it_s, it_r, x_rng1, x_enum, x_rev, x_m, x_m0, x_mX, x_zip, x_star_t, x_star_l, x_lenSet, x_forgo0, x_lcgo0, x_while, x_par, x_sortK,
  br_t, br_f, isB_bl, isI_int, isN_some, slo_some, atL_lst, ix_t, ix_l, ix_n,
  dAdd_ii, dAdd_ss, dAdd_tt, dAdd_ll, dMinus_ii, dMul_ii, dMod_ii, dFdiv_ii, dPow_ii, dShl_ii, dNeg_i, dIadd_ii, dLt_ii, dLe_ii, dGt_ii, dGe_ii, ltE_ii, ltE_ss, srcD, isi_i, isi_s, isi_b, isi_n, isi_t, isi_nt, isi_l, isi2_i, isi2_s, isi2_b, isi2_n, isi2_t, isi2_nt, isi2_l, inon_n, inon_i, inon_s, inon_b, inon_t, inon_l, inon_r, dEq_ii, dNe_ii, dEq_ss, dNe_ss, dEq_bb, dNe_bb, dIs_n, dIsNot_n, dMax2_ii, dMin2_ii, dTuple_t, dTuple_l, dList_t, dList_l, dSl_t, dSl_l, dSl_s, newL_f, newL_t, app_r, int_b, int_i, strI_i, strX_i, strX_s,
  startD, wipeD, setAll, permL, List.filterMap, List.map_cons, List.map_nil, List.length_cons, List.length_nil, List.replicate, List.cons_append, List.nil_append, List.append_nil, List.getElem?_cons_zero, List.getElem?_cons_succ, List.set_cons_zero, List.set_cons_succ, List.map, Nat.zero_add, Nat.reduceAdd, Nat.reduceSub, Nat.sub_self, Nat.succ_sub_succ_eq_sub])
local macro_rules | `(tactic| walk_at "v") => `(tactic| simp only [ofString_inj, String.reduceEq, at_0, at_1, at_2, at_3, at_4, at_5, isN_some, isBB_bl, isB_bl, br_t, br_f, br_not, br_and, br_or, br_dec, ix_r, len_tup, len_lst, len_nt, ltE_key, gup_gup, gup_same, starD_one, cut1, cut2, kt1, kt2, kt3, kt4, kt5, kt6, isTy, String.reduceBEq, Bool.or_false, Bool.false_or, Bool.true_or, Bool.or_true, Bool.and_false, Bool.false_and, Bool.true_and, Bool.and_true, Bool.not_true, Bool.not_false, decide_true, decide_false, eq_self_iff_true, Bool.false_eq_true, Int.reduceAdd, Int.add_zero, if_true, if_false, true_and, and_true])
local macro_rules | `(tactic| walk_at "side") => `(tactic| first | with_reducible assumption | omega | exact mty_up | exact True.intro | (simp only [List.mem_cons, ofString_inj, String.reduceEq, true_or, or_true, List.length_map]; done) | with_reducible exact (rfl : (_ : Nat) = _) | exact (rfl : (_ : Option String) = _) | (refine small_line ?_; omega) | (walk_at "ll"; first | omega | (refine small_line ?_; omega) | fail) | (exact log_small (by omega)) | fail)
local macro_rules | `(tactic| walk_at "x") => `(tactic| fail)
local macro_rules | `(tactic| walk_at "go") => `(tactic| repeat' (first | dsimp only [x_var, x_c, x_op, x_un, x_b, x_and, x_or, x_not, x_chain, x_andV, x_orV, x_notV, x_if, x_nil, x_cons, x_tup, x_lst0, x_lst1, x_callB, x_call, x_callK, x_next, x_seq, x_break, x_cont, x_drop, x_ret, x_ifS, x_asg, x_name, x_names, x_sub, x_aug, x_augS, x_for, x_lc0, x_lc1, x_yes, x_noPart, x_part, x_slice, x_iter, it_t, it_l, it_n, it_s, it_r, x_rng1, x_enum, x_rev, x_m, x_m0, x_mX, x_zip, x_star_t, x_star_l, x_lenSet, x_forgo0, x_lcgo0, x_while, x_par, x_sortK, br_t, br_f, isB_bl, isI_int, isN_some, slo_some, atL_lst, ix_t, ix_l, ix_n, dAdd_ii, dAdd_ss, dAdd_tt, dAdd_ll, dMinus_ii, dMul_ii, dMod_ii, dFdiv_ii, dPow_ii, dShl_ii, dNeg_i, dIadd_ii, dLt_ii, dLe_ii, dGt_ii, dGe_ii, ltE_ii, ltE_ss, srcD, isi_i, isi_s, isi_b, isi_n, isi_t, isi_nt, isi_l, isi2_i, isi2_s, isi2_b, isi2_n, isi2_t, isi2_nt, isi2_l, inon_n, inon_i, inon_s, inon_b, inon_t, inon_l, inon_r, dEq_ii, dNe_ii, dEq_ss, dNe_ss, dEq_bb, dNe_bb, dIs_n, dIsNot_n, dMax2_ii, dMin2_ii, dTuple_t, dTuple_l, dList_t, dList_l, dSl_t, dSl_l, dSl_s, newL_f, newL_t, app_r, int_b, int_i, strI_i, strX_i, strX_s, startD, wipeD, setAll, permL, List.filterMap, List.map_cons, List.map_nil, List.length_cons, List.length_nil, List.replicate, List.cons_append, List.nil_append, List.append_nil, List.getElem?_cons_zero, List.getElem?_cons_succ, List.set_cons_zero, List.set_cons_succ, List.map, Nat.zero_add, Nat.reduceAdd, Nat.reduceSub, Nat.sub_self, Nat.succ_sub_succ_eq_sub] | simp only [ofString_inj, String.reduceEq, at_0, at_1, at_2, at_3, at_4, at_5, isN_some, isBB_bl, isB_bl, br_t, br_f, br_not, br_and, br_or, br_dec, ix_r, len_tup, len_lst, len_nt, ltE_key, gup_gup, gup_same, starD_one, cut1, cut2, kt1, kt2, kt3, kt4, kt5, kt6, isTy, String.reduceBEq, Bool.or_false, Bool.false_or, Bool.true_or, Bool.or_true, Bool.and_false, Bool.false_and, Bool.true_and, Bool.and_true, Bool.not_true, Bool.not_false, decide_true, decide_false, eq_self_iff_true, Bool.false_eq_true, Int.reduceAdd, Int.add_zero, if_true, if_false, true_and, and_true] | walk_at "x" | with_reducible refine kont_go ?_ | with_reducible refine rt_sub (by assumption) ?_ | with_reducible refine rt_lst (by assumption) ?_ | with_reducible refine rt_drop (by assumption) ?_ | with_reducible refine rt_keep (by assumption) (by assumption) ?_ | with_reducible refine rt_same ?_ | (refine fun (p : Addr) (_ : _ = none) => ?_) | refine join_gor gup_same rfl (by walk_at "side") ?_ | with_reducible refine lc_cons ?_ | with_reducible refine for_cons ?_ | refine join_go rfl (by walk_at "side") ?_ | refine And.intro (by first | with_reducible assumption | omega | exact mty_up | exact True.intro | (simp only [List.mem_cons, ofString_inj, String.reduceEq, true_or, or_true, List.length_map]; done) | with_reducible exact (rfl : (_ : Nat) = _) | exact (rfl : (_ : Option String) = _) | (refine small_line ?_; omega) | (walk_at "ll"; first | omega | (refine small_line ?_; omega) | fail) | (exact log_small (by omega)) | fail) ?_ | fail))
local macro_rules | `(tactic| walk_at "ll") => `(tactic| simp only [List.length_map, List.length_append, List.length_cons, List.length_nil, List.map_cons, List.map_nil, List.sum_cons, List.sum_nil, len_app, rng_length, ll_0, ll_1, ll_2, ll_3, ll_4, ll_5, ll_6, ll_7, ll_8, ll_9, ll_10, ll_11, ll_12, ll_13, ll_14, ll_15, ll_16, ll_17, ll_18, ll_19, ll_20, ll_21, ll_22, ll_23, ll_24, ll_25, ll_26, ll_27, ll_28, ll_29, ll_30, ll_31, ll_32, ll_33, ll_34])
/-! ### the first state that differs -/
def wldOf (M : Mach) (l : List Int) : Wld := ⟨l.take M.names.length, List.replicate M.h.toNat 0, l.drop M.names.length⟩
def difB (M : Mach) (m : Mn) (l : List Int) : Bool := decide (behF M (wldOf M l) m ≠ some (l.take M.names.length, l.drop M.names.length))
def difL (M : Mach) (m : Mn) : List (List Int) → D
  | [] => .non
  | l :: ls => if difB M m l then (wldOf M l).d else difL M m ls
def sp_differs (a : Ad) : DSpX := fun ds G R RX => ∃ (M : Mach) (m : Mn), ds = [M.d, m.d, noneD] ∧ M.ok ∧ (12 < M.b * (M.names.length + M.c) ∧ RX (.ref a.x_TooMany) [] G ∨ M.b * (M.names.length + M.c) ≤ 12 ∧ m.ok M ∧ m.lv ≤ 7 ∧ (∀ W : Wld, W.ok M → behF M W m ≠ none) ∧ R (difL M m (allW (2 ^ M.b.toNat) (M.names.length + M.c.toNat))) G)
theorem allW_mem (t : Nat) : ∀ m, ∀ r ∈ allW t m, ∀ z ∈ r, 0 ≤ z ∧ z < (t : Nat)
  | 0, r, h, z, hz => by simp [allW] at h; subst h; cases hz
  | m + 1, r, h, z, hz => by
    simp only [allW, List.mem_flatMap, List.mem_map, List.mem_range] at h
    obtain ⟨r0, h0, w, hw, rfl⟩ := h
    rcases List.mem_append.mp hz with hz | hz
    · exact allW_mem t m r0 h0 z hz
    · rw [List.mem_singleton.mp hz]; omega
local macro_rules | `(tactic| walk_at "x") => `(tactic| first | dsimp only [x_callX, x_raise] | fail)
theorem ok_differs {P : Program} {w : World} {K : PySem.W.Frag} {mg : Str → Option Value} {base : Heap} {a : Ad} (T : Tx w K mg a) : FnX P w K mg base 21 a.f_differs a.fd_differs ["machine", "meaning", "program"] (sp_differs a) := by
  refine fun_okX T.F_differs sc_differs (fun ds G R RX h => ?_) (fun cdv A outer s H E hr tk => ⟨_, (ssx_cons (sx_of (qs_asg (qv 0) (qg_of (pg_tup rfl (pgs_cons (pg_name (i := 3) sc_differs.nd rfl (.inl rfl)) (pgs_cons (pg_name (i := 4) sc_differs.nd rfl (.inl rfl)) (pgs_cons (pg_name (i := 5) sc_differs.nd rfl (.inl rfl)) (pgs_cons (pg_name (i := 6) sc_differs.nd rfl (.inl rfl)) (pgs_cons (pg_name (i := 7) sc_differs.nd rfl (.inl rfl)) (pgs_cons (pg_name (i := 8) sc_differs.nd rfl (.inl rfl)) pgs_nil))))))) (tg_names (is := [3, 4, 5, 6, 7, 8]) (ws := [3, 4, 5, 6, 7, 8]) (by decide) rfl))))
      (ssx_cons (sx_if (tx_of (qt_cmp od_gt (qe_op od_mul (qv 3) (qe_op (od_add false) (qe_callB cd_len rfl T.n_len (by decide +kernel) (qa_cons (qv 4) qa_nil)) (qv 8))) (qe_globI rfl T.c_MOST_BITS) (nomark _)))
      (ssx_one (sx_raise rfl tk PySem.F.excBase_ValueError T.xx_TooMany T.gx_TooMany T.kx_TooMany T.bx_TooMany T.tx_TooMany rfl))
      ssx_nil)
      (ssx_cons (sx_of (qs_for PassesOwn.leaving rfl (qi_seq (qe_call (ok_all_words T) (hr.mono (by omega)) rfl T.g_all_words T.F_all_words.kp T.b_all_words (qa_cons (qv 3) (qa_cons (qe_op (od_add false) (qe_callB cd_len rfl T.n_len (by decide +kernel) (qa_cons (qv 4) qa_nil)) (qv 8)) qa_nil)))) (qg_of (pg_name (i := 9) sc_differs.nd rfl (.inl rfl)) (tg_name (i := 9) (ws := [9]) (by decide)))
      (qss_cons (qs_set (i := 10) sc_differs.nd rfl (.inl rfl) (qe_tup (qa_cons (qe_slice false (qv 9) qo_none (qo_some (qe_callB cd_len rfl T.n_len (by decide +kernel) (qa_cons (qv 4) qa_nil)))) (qa_cons (qe_op od_repT (qe_tup (qa_cons qe_int qa_nil)) (qv 5)) (qa_cons (qe_slice false (qv 9) (qo_some (qe_callB cd_len rfl T.n_len (by decide +kernel) (qa_cons (qv 4) qa_nil))) qo_none) qa_nil)))))
      (qss_one (qs_if (qt_val (qe_call (ok_does_otherwise T) (hr.mono (by omega)) rfl T.g_does_otherwise T.F_does_otherwise.kp T.b_does_otherwise (qa_cons (qv 0) (qa_cons (qv 1) (qa_cons (qv 2) (qa_cons (qv 10) qa_nil))))))
      (qss_one (qs_ret (qv 10)))
      qss_nil)))))
      (ssx_one (sx_of (qs_ret qe_non)))))), fun ds G R RX h => ?_⟩)
  · obtain ⟨M, m, rfl, _⟩ := h; rfl
  · obtain ⟨M, m, rfl, hM, h⟩ := h
    have hb1 := hM.b1; have hb2 := hM.b2; have hc1 := hM.c1; have hc2 := hM.c2; have hn1 := hM.n1; have hn2 := hM.n2; have htop := top_le hb1 hb2
    obtain ⟨b, hb⟩ : ∃ b : Nat, M.b = (b : Int) := ⟨M.b.toNat, by omega⟩
    obtain ⟨c, hc⟩ : ∃ c : Nat, M.c = (c : Int) := ⟨M.c.toNat, by omega⟩
    have hh1 := hM.h1; have hh2 := hM.h2
    rw [show M.d = .tup [.int (b : Nat), .nt M.names, .int M.h, .int M.al, .int M.mo, .int (c : Nat)] by unfold Mach.d; rw [hb, hc]]
    rw [hb, hc] at h
    walk_at "go"
    refine ⟨mul_ok (by omega) (by omega), ?_⟩
    rcases h with ⟨hbig, h⟩ | ⟨hsm, hm, hl, hnt, h⟩
    · rw [if_pos hbig]
      exact ⟨G, Sub.refl _, h⟩
    rw [if_neg (by omega)]
    have hbm : b * (M.names.length + c) ≤ 12 := by
      have e : ((b * (M.names.length + c) : Nat) : Int) = (b : Int) * ((M.names.length : Int) + (c : Int)) := by rw [Int.natCast_mul, Int.natCast_add]
      omega
    have hmc : M.names.length + c ≤ 12 := Nat.le_trans (Nat.le_mul_of_pos_left _ (by omega)) hbm
    walk_at "go"
    rw [← Int.natCast_add]
    refine go_all_words (by omega) hmc hbm ?_
    rw [Int.toNat_natCast, Int.toNat_natCast] at h
    have hall : ∀ l ∈ allW (2 ^ b) (M.names.length + c), l.length = M.names.length + c ∧ ∀ z ∈ l, wordOk M z := fun l hl => ⟨allW_row _ _ l hl, fun z hz => by
      have := allW_mem _ _ l hl z hz
      unfold wordOk
      rw [hb, Int.toNat_natCast]
      exact ⟨this.1, by have h2 := this.2; rw [Int.natCast_pow] at h2; exact h2⟩⟩
    generalize allW (2 ^ b) (M.names.length + c) = ls at h hall
    walk_at "go"
    have eM : D.tup [D.int (b : Nat), D.nt M.names, D.int M.h, D.int M.al, D.int M.mo, D.int (c : Nat)] = M.d := by unfold Mach.d; rw [hb, hc]
    refine for_go (fun rest σ' G' => ∃ (ls' : List (List Int)) (x9 x10 : Option D), rest = ls'.map wordsD ∧ (∀ l ∈ ls', l.length = M.names.length + c ∧ ∀ z ∈ l, wordOk M z) ∧ difL M m ls' = difL M m ls ∧ σ' = [some M.d, some m.d, some noneD, some (.int (b : Nat)), some (.nt M.names), some (.int M.h), some (.int M.al), some (.int M.mo), some (.int (c : Nat)), x9, x10] ∧ G' = G) ?turn ?fin _ _ _ ⟨ls, none, none, rfl, hall, rfl, by rw [eM], rfl⟩
    case fin =>
      rintro σ' G' ⟨ls', x9, x10, e, _, hd, rfl, rfl⟩
      have : ls' = [] := by simpa using e.symm
      subst this
      refine ⟨True.intro, ?_⟩
      walk_at "go"
      rw [← hd] at h
      exact h
    case turn =>
      rintro x rest σ' G' ⟨ls', x9, x10, e, ha, hd, rfl, rfl⟩
      cases ls' with
      | nil => simp at e
      | cons l ls' =>
        rw [List.map_cons, List.cons.injEq] at e
        obtain ⟨rfl, rfl⟩ := e
        refine ⟨True.intro, fun N hN => ?_⟩
        obtain ⟨hll, hlw⟩ := ha l List.mem_cons_self
        rw [show wordsD l = .tup (l.map .int) from rfl]
        walk_at "go"
        have erep : (List.replicate M.h.toNat [D.int 0]).flatten = (List.replicate M.h.toNat (0 : Int)).map D.int := by
          generalize M.h.toNat = n
          induction n with
          | zero => rfl
          | succ n ih => rw [List.replicate_succ, List.flatten_cons, ih]; rfl
        have hW : (wldOf M l).ok M := by
          refine ⟨?_, ?_, ?_, fun z hz => hlw z (List.mem_of_mem_take hz), fun z hz => ?_, fun z hz => hlw z (List.mem_of_mem_drop hz)⟩
          · show (l.take M.names.length).length = _
            rw [List.length_take]; omega
          · show ((List.replicate M.h.toNat (0 : Int)).length : Int) = _
            rw [List.length_replicate]; omega
          · show ((l.drop M.names.length).length : Int) = _
            rw [List.length_drop, hc]; omega
          · rw [List.eq_of_mem_replicate hz]
            exact ⟨by omega, by omega⟩
        refine (show ([D.int 0] ≠ [] ∧ -1000 ≤ M.h ∧ M.h ≤ 1000 ∧ [D.int 0].length ≤ 1000 ∧ _ : Prop) from ⟨by simp, by omega, by omega, by simp, ?_⟩)
        rw [erep, cut_take, cut_drop, ← List.map_take, ← List.map_drop]
        refine ⟨by rw [sizeLine_eq]; omega, ?_⟩
        rw [show D.tup [D.tup ((l.take M.names.length).map D.int), D.tup ((List.replicate M.h.toNat (0 : Int)).map D.int), D.tup ((l.drop M.names.length).map D.int)] = (wldOf M l).d from rfl]
        walk_at "go"
        obtain ⟨p, hp⟩ := Option.ne_none_iff_exists'.mp (hnt _ hW)
        refine go_otherwise hM hW hm hl hp ?_
        have eb : decide (p ≠ ((wldOf M l).vis, (wldOf M l).mem)) = difB M m l := by
          unfold difB
          rw [hp, Bool.eq_iff_iff]
          simp only [decide_eq_true_eq, ne_eq, Option.some.injEq]
          rfl
        rw [eb]
        cases hdb : difB M m l with
        | true =>
          walk_at "go"
          rw [← hd] at h
          unfold difL at h
          rw [hdb, if_pos rfl] at h
          exact h
        | false =>
          walk_at "go"
          refine hN _ _ ⟨ls', _, _, rfl, fun l' h' => ha l' (List.mem_cons_of_mem _ h'), ?_, rfl, rfl⟩
          rw [← hd]
          show _ = if difB M m l then _ else _
          rw [hdb, if_neg Bool.false_ne_true]
theorem go_differs {a : Ad} {M : Mach} {m : Mn} {G : Gp} {R : DK} {RX : DXC} (hM : M.ok) (hb : M.b * (M.names.length + M.c) ≤ 12) (hm : m.ok M) (hl : m.lv ≤ 7) (hn : ∀ W : Wld, W.ok M → behF M W m ≠ none) (h : R (difL M m (allW (2 ^ M.b.toNat) (M.names.length + M.c.toNat))) G) : sp_differs a [M.d, m.d, noneD] G R RX := ⟨M, m, rfl, hM, .inr ⟨hb, hm, hl, hn, h⟩⟩
end K68


set_option Elab.async false
set_option linter.all false
set_option maxRecDepth 100000
set_option maxHeartbeats 4000000
set_option autoImplicit false
namespace K68
open PySem PySem.Spec PyProof.Rows L2 DL
local macro_rules | `(tactic| walk_at "d") => `(tactic| dsimp only [dSeq, dNext, dIfS, dRet, dRetN, dAsg, dName, dVar, dC, dOp, dUn, dChain, dB, dAnd, dOr, dNot, dAndV, dOrV, dNotV, dIf, dNil, dCons, dTup, dLst, newL, dCallB, dCall, dCallK, dDrop, dAug, dAugS, dSub, dM, dM0, dSlice, dNoPart, dPart, dLc, dYes, dFor, dIter, dRng1, dEnum, dZipM, srcD, dStar, dInK, dIxK, dLenSet, dRev,
  startD, wipeD, setAll, dNames, List.map_cons, List.map_nil, List.length_cons, List.length_nil, List.replicate, List.cons_append, List.nil_append, List.append_nil, List.getElem?_cons_zero, List.getElem?_cons_succ, List.set_cons_zero, List.set_cons_succ, List.map, Nat.zero_add, Nat.reduceAdd, Nat.reduceSub, Nat.sub_self, Nat.succ_sub_succ_eq_sub])
local macro_rules | `(tactic| walk_at "o") => `(tactic| simp only [dAdd_ii, dAdd_ss, dAdd_tt, dAdd_ll, dMinus_ii, dMul_ii, dMod_ii, dFdiv_ii, dPow_ii, dShl_ii, dNeg_i, dIadd_ii, dLt_ii, dLe_ii, dGt_ii, dGe_ii, dEq_ii, dNe_ii, dEq_ss, dNe_ss, dEq_bb, dNe_bb, dIs_n, dIsNot_n, dMax2_ii, dMin2_ii, dTuple_t, dTuple_l, dList_t, dList_l, dIx_t, dIx_l, dIx_s, dSl_t, dSl_l, dSl_s, newL_f, len_tup, len_lst])
local macro_rules | `(tactic| walk_at "w") => `(tactic| dsimp only [x_var, x_c, x_op, x_un, x_b, x_and, x_or, x_not, x_chain, x_andV, x_orV, x_notV, x_if, x_nil, x_cons, x_tup, x_lst0, x_lst1, x_callB, x_call, x_callK, x_next, x_seq, x_break, x_cont, x_drop, x_ret, x_ifS, x_asg, x_name, x_names, x_sub, x_aug, x_augS, x_for, x_lc0, x_lc1, x_yes, x_noPart, x_part, x_slice, x_iter, it_t, it_l, it_n, it_s, it_r, x_rng1, x_enum, x_rev, x_m, x_m0, x_mX, x_zip, x_star_t, x_star_l, x_lenSet, x_forgo0, x_lcgo0, x_while, x_par, x_sortK,
  br_t, br_f, isB_bl, isI_int, isN_some, slo_some, atL_lst, ix_t, ix_l, ix_n,
  dAdd_ii, dAdd_ss, dAdd_tt, dAdd_ll, dMinus_ii, dMul_ii, dMod_ii, dFdiv_ii, dPow_ii, dShl_ii, dNeg_i, dIadd_ii, dLt_ii, dLe_ii, dGt_ii, dGe_ii, ltE_ii, ltE_ss, srcD, isi_i, isi_s, isi_b, isi_n, isi_t, isi_nt, isi_l, isi2_i, isi2_s, isi2_b, isi2_n, isi2_t, isi2_nt, isi2_l, inon_n, inon_i, inon_s, inon_b, inon_t, inon_l, inon_r, dEq_ii, dNe_ii, dEq_ss, dNe_ss, dEq_bb, dNe_bb, dIs_n, dIsNot_n, dMax2_ii, dMin2_ii, dTuple_t, dTuple_l, dList_t, dList_l, dSl_t, dSl_l, dSl_s, newL_f, newL_t, app_r, int_b, int_i, strI_i, strX_i, strX_s,
  startD, wipeD, setAll, permL, List.filterMap, List.map_cons, List.map_nil, List.length_cons, List.length_nil, List.replicate, List.cons_append, List.nil_append, List.append_nil, List.getElem?_cons_zero, List.getElem?_cons_succ, List.set_cons_zero, List.set_cons_succ, List.map, Nat.zero_add, Nat.reduceAdd, Nat.reduceSub, Nat.sub_self, Nat.succ_sub_succ_eq_sub])
local macro_rules | `(tactic| walk_at "v") => `(tactic| simp only [ofString_inj, String.reduceEq, at_0, at_1, at_2, at_3, at_4, at_5, isN_some, isBB_bl, isB_bl, br_t, br_f, br_not, br_and, br_or, br_dec, ix_r, len_tup, len_lst, len_nt, ltE_key, gup_gup, gup_same, starD_one, cut1, cut2, kt1, kt2, kt3, kt4, kt5, kt6, isTy, String.reduceBEq, Bool.or_false, Bool.false_or, Bool.true_or, Bool.or_true, Bool.and_false, Bool.false_and, Bool.true_and, Bool.and_true, Bool.not_true, Bool.not_false, decide_true, decide_false, eq_self_iff_true, Bool.false_eq_true, Int.reduceAdd, Int.add_zero, if_true, if_false, true_and, and_true])
local macro_rules | `(tactic| walk_at "side") => `(tactic| first | with_reducible assumption | omega | exact mty_up | exact True.intro | (simp only [List.mem_cons, ofString_inj, String.reduceEq, true_or, or_true, List.length_map]; done) | with_reducible exact (rfl : (_ : Nat) = _) | exact (rfl : (_ : Option String) = _) | (refine small_line ?_; omega) | (walk_at "ll"; first | omega | (refine small_line ?_; omega) | fail) | (exact log_small (by omega)) | fail)
local macro_rules | `(tactic| walk_at "x") => `(tactic| fail)
local macro_rules | `(tactic| walk_at "go") => `(tactic| repeat' (first | dsimp only [x_var, x_c, x_op, x_un, x_b, x_and, x_or, x_not, x_chain, x_andV, x_orV, x_notV, x_if, x_nil, x_cons, x_tup, x_lst0, x_lst1, x_callB, x_call, x_callK, x_next, x_seq, x_break, x_cont, x_drop, x_ret, x_ifS, x_asg, x_name, x_names, x_sub, x_aug, x_augS, x_for, x_lc0, x_lc1, x_yes, x_noPart, x_part, x_slice, x_iter, it_t, it_l, it_n, it_s, it_r, x_rng1, x_enum, x_rev, x_m, x_m0, x_mX, x_zip, x_star_t, x_star_l, x_lenSet, x_forgo0, x_lcgo0, x_while, x_par, x_sortK, br_t, br_f, isB_bl, isI_int, isN_some, slo_some, atL_lst, ix_t, ix_l, ix_n, dAdd_ii, dAdd_ss, dAdd_tt, dAdd_ll, dMinus_ii, dMul_ii, dMod_ii, dFdiv_ii, dPow_ii, dShl_ii, dNeg_i, dIadd_ii, dLt_ii, dLe_ii, dGt_ii, dGe_ii, ltE_ii, ltE_ss, srcD, isi_i, isi_s, isi_b, isi_n, isi_t, isi_nt, isi_l, isi2_i, isi2_s, isi2_b, isi2_n, isi2_t, isi2_nt, isi2_l, inon_n, inon_i, inon_s, inon_b, inon_t, inon_l, inon_r, dEq_ii, dNe_ii, dEq_ss, dNe_ss, dEq_bb, dNe_bb, dIs_n, dIsNot_n, dMax2_ii, dMin2_ii, dTuple_t, dTuple_l, dList_t, dList_l, dSl_t, dSl_l, dSl_s, newL_f, newL_t, app_r, int_b, int_i, strI_i, strX_i, strX_s, startD, wipeD, setAll, permL, List.filterMap, List.map_cons, List.map_nil, List.length_cons, List.length_nil, List.replicate, List.cons_append, List.nil_append, List.append_nil, List.getElem?_cons_zero, List.getElem?_cons_succ, List.set_cons_zero, List.set_cons_succ, List.map, Nat.zero_add, Nat.reduceAdd, Nat.reduceSub, Nat.sub_self, Nat.succ_sub_succ_eq_sub] | simp only [ofString_inj, String.reduceEq, at_0, at_1, at_2, at_3, at_4, at_5, isN_some, isBB_bl, isB_bl, br_t, br_f, br_not, br_and, br_or, br_dec, ix_r, len_tup, len_lst, len_nt, ltE_key, gup_gup, gup_same, starD_one, cut1, cut2, kt1, kt2, kt3, kt4, kt5, kt6, isTy, String.reduceBEq, Bool.or_false, Bool.false_or, Bool.true_or, Bool.or_true, Bool.and_false, Bool.false_and, Bool.true_and, Bool.and_true, Bool.not_true, Bool.not_false, decide_true, decide_false, eq_self_iff_true, Bool.false_eq_true, Int.reduceAdd, Int.add_zero, if_true, if_false, true_and, and_true] | walk_at "x" | with_reducible refine kont_go ?_ | with_reducible refine rt_sub (by assumption) ?_ | with_reducible refine rt_lst (by assumption) ?_ | with_reducible refine rt_drop (by assumption) ?_ | with_reducible refine rt_keep (by assumption) (by assumption) ?_ | with_reducible refine rt_same ?_ | (refine fun (p : Addr) (_ : _ = none) => ?_) | refine join_gor gup_same rfl (by walk_at "side") ?_ | with_reducible refine lc_cons ?_ | with_reducible refine for_cons ?_ | refine join_go rfl (by walk_at "side") ?_ | refine And.intro (by first | with_reducible assumption | omega | exact mty_up | exact True.intro | (simp only [List.mem_cons, ofString_inj, String.reduceEq, true_or, or_true, List.length_map]; done) | with_reducible exact (rfl : (_ : Nat) = _) | exact (rfl : (_ : Option String) = _) | (refine small_line ?_; omega) | (walk_at "ll"; first | omega | (refine small_line ?_; omega) | fail) | (exact log_small (by omega)) | fail) ?_ | fail))
local macro_rules | `(tactic| walk_at "ll") => `(tactic| simp only [List.length_map, List.length_append, List.length_cons, List.length_nil, List.map_cons, List.map_nil, List.sum_cons, List.sum_nil, len_app, rng_length, ll_0, ll_1, ll_2, ll_3, ll_4, ll_5, ll_6, ll_7, ll_8, ll_9, ll_10, ll_11, ll_12, ll_13, ll_14, ll_15, ll_16, ll_17, ll_18, ll_19, ll_20, ll_21, ll_22, ll_23, ll_24, ll_25, ll_26, ll_27, ll_28, ll_29, ll_30, ll_31, ll_32, ll_33, ll_34])
/-! ### a machine drawn -/
def sp__law_machine : DSp := fun ds G R => ∃ (s : Addr) (n : Nat) (o : GO) (most : Int), ds = [.ref s, .int most] ∧ 8 ≤ most ∧ most ≤ 12 ∧ G s = some o ∧ BagO n o ∧ n ≤ 800000 ∧ ∀ (M : Mach) o', M.ok → M.b * (M.names.length + M.c) ≤ 12 → BagO (n + 4) o' → R M.d (gup G s o')
local macro_rules | `(tactic| walk_at "x") => `(tactic| first | dsimp only [x_sliceN, x_tupN] | refine go_draw (by first | exact gup_same | assumption | fail) (by assumption) (by omega) (by walk_at "side") (by walk_at "side") fun _ _ _ _ => ?_ | fail)
theorem ok__law_machine {P : Program} {w : World} {K : PySem.W.Frag} {mg : Str → Option Value} {base : Heap} {a : Ad} (T : Tx w K mg a) : FnD P w K mg base 2 a.f__law_machine a.fd__law_machine ["bag", "most"] sp__law_machine := by
  refine fun_okD T.F__law_machine sc__law_machine (fun ds G R h => ?_) (fun cdv A outer s H hr => ⟨_, (qss_cons (qs_set (i := 2) sc__law_machine.nd rfl (.inl rfl) (qe_op (od_add false) qe_int (qe_call (ok__law_draw T) (hr.mono (by omega)) rfl T.g__law_draw T.F__law_draw.kp T.b__law_draw (qa_cons (qv 0) (qa_cons qe_int qa_nil)))))
      (qss_cons (qs_set (i := 3) sc__law_machine.nd rfl (.inl rfl) (qe_callB (cd_max2 rfl) rfl T.n_max (by decide +kernel) (qa_cons qe_int (qa_cons (qe_op od_fdiv (qv 1) (qv 2)) qa_nil))))
      (qss_cons (qs_set (i := 4) sc__law_machine.nd rfl (.inl rfl) (qe_op (od_add false) qe_int (qe_call (ok__law_draw T) (hr.mono (by omega)) rfl T.g__law_draw T.F__law_draw.kp T.b__law_draw (qa_cons (qv 0) (qa_cons (qe_callB (cd_min2 rfl) rfl T.n_min (by decide +kernel) (qa_cons (qv 3) (qa_cons qe_int qa_nil))) qa_nil)))))
      (qss_cons (qs_set (i := 5) sc__law_machine.nd rfl (.inl rfl) (qe_call (ok__law_draw T) (hr.mono (by omega)) rfl T.g__law_draw T.F__law_draw.kp T.b__law_draw (qa_cons (qv 0) (qa_cons (qe_op (od_add false) (qe_callB (cd_min2 rfl) rfl T.n_min (by decide +kernel) (qa_cons (qe_op od_sub (qv 3) (qv 4)) (qa_cons (qe_op od_shl qe_int (qv 2)) qa_nil))) qe_int) qa_nil))))
      (qss_one (qs_ret (qe_tup (qa_cons (qv 2) (qa_cons (qe_sliceN (qe_tupN (qa_cons qe_str (qa_cons qe_str (qa_cons qe_str qa_nil)))) qo_none (qo_some (qv 4))) (qa_cons (qe_call (ok__law_draw T) (hr.mono (by omega)) rfl T.g__law_draw T.F__law_draw.kp T.b__law_draw (qa_cons (qv 0) (qa_cons qe_int qa_nil))) (qa_cons qe_int (qa_cons qe_int (qa_cons (qv 5) qa_nil))))))))))))), fun ds G R h => ?_⟩)
  · obtain ⟨s, n, o, most, rfl, _⟩ := h; rfl
  · obtain ⟨s, n, o, most, rfl, hm1, hm2, e, ho, hn, h⟩ := h
    refine seq_cut (fun σ' G' => ∃ (b : Nat) (o1 : GO), σ' = [some (D.ref s), some (D.int most), some (.int (b : Nat)), none, none, none] ∧ 1 ≤ b ∧ b ≤ 8 ∧ BagO (n + 1) o1 ∧ G' = gup G s o1) ?_ (fun N1 hN1 => ?_)
    rotate_left
    · walk_at "go"
      rename_i r o1 hr ho1
      exact hN1 _ _ ⟨1 + r, o1, by rw [Int.natCast_add]; rfl, by omega, by omega, ho1, rfl⟩
    rintro σ G1 ⟨b, o1, rfl, hb1, hb2, ho1, rfl⟩
    refine seq_cut (fun σ' G' => ∃ (wd : Nat), σ' = [some (D.ref s), some (D.int most), some (.int (b : Nat)), some (.int (wd : Nat)), none, none] ∧ 1 ≤ wd ∧ b * wd ≤ 12 ∧ G' = gup G s o1) ?_ (fun N1 hN1 => ?_)
    rotate_left
    · walk_at "go"
      have e1 : (b : Int) * (most / (b : Int)) ≤ most := Int.mul_ediv_self_le (by omega)
      obtain ⟨wd, hwd⟩ : ∃ wd : Nat, (if most / (b : Int) > 1 then most / (b : Int) else 1) = (wd : Int) := ⟨(if most / (b : Int) > 1 then most / (b : Int) else 1).toNat, by split <;> omega⟩
      rw [hwd]
      refine ⟨div_ok (by omega) (by omega), hN1 _ _ ⟨wd, rfl, ?_, ?_, rfl⟩⟩
      · split at hwd <;> omega
      · have e2 : (b : Int) * (wd : Int) ≤ 12 := by
          rw [← hwd]
          split
          · omega
          · omega
        rw [← Int.natCast_mul] at e2
        omega
    rintro σ G1 ⟨wd, rfl, hw1, hw2, rfl⟩
    have hsh : CShl 1 (b : Int) := shl_ok (by omega) (by omega)
    have htop := top_le (b := (b : Int)) (by omega) (by omega)
    refine seq_cut (fun σ' G' => ∃ (mn : Nat) (o2 : GO), σ' = [some (D.ref s), some (D.int most), some (.int (b : Nat)), some (.int (wd : Nat)), some (.int (mn : Nat)), none] ∧ 1 ≤ mn ∧ mn ≤ 3 ∧ mn ≤ wd ∧ BagO (n + 2) o2 ∧ G' = gup G s o2) ?_ (fun N1 hN1 => ?_)
    rotate_left
    · walk_at "go"
      rename_i r o2 hr ho2
      exact hN1 _ _ ⟨1 + r, o2, by rw [Int.natCast_add]; rfl, by omega, by split at hr <;> omega, by split at hr <;> omega, ho2, rfl⟩
    rintro σ G1 ⟨mn, o2, rfl, hn1, hn2, hn3, ho2, rfl⟩
    refine seq_cut (fun σ' G' => ∃ (cl : Nat) (o3 : GO), σ' = [some (D.ref s), some (D.int most), some (.int (b : Nat)), some (.int (wd : Nat)), some (.int (mn : Nat)), some (.int (cl : Nat))] ∧ (cl : Int) ≤ 2 ^ (b : Int).toNat ∧ mn + cl ≤ wd ∧ BagO (n + 3) o3 ∧ G' = gup G s o3) ?_ (fun N1 hN1 => ?_)
    rotate_left
    · walk_at "go"
      rename_i r o3 hr ho3
      rw [Int.one_mul] at hr
      exact hN1 _ _ ⟨r, o3, rfl, by split at hr <;> omega, by split at hr <;> omega, ho3, rfl⟩
    rintro σ G1 ⟨cl, o3, rfl, hc1, hc2, ho3, rfl⟩
    walk_at "go"
    refine ⟨["b", "a", "cc"], rfl, ?_⟩
    rw [cut_take]
    walk_at "go"
    rename_i r o4 hr ho4
    have hnl : ((["b", "a", "cc"] : List Str).take mn).length = mn := by rw [List.length_take]; simp only [List.length_cons, List.length_nil]; omega
    have hnm : NamesOk ((["b", "a", "cc"] : List Str).take mn) := by
      rcases (show mn = 1 ∨ mn = 2 ∨ mn = 3 by omega) with rfl | rfl | rfl
      · exact ⟨by decide +kernel, by decide +kernel⟩
      · exact ⟨by decide +kernel, by decide +kernel⟩
      · exact ⟨by decide +kernel, by decide +kernel⟩
    have hbw : b * (mn + cl) ≤ 12 := Nat.le_trans (Nat.mul_le_mul_left b hc2) hw2
    refine h ⟨b, (["b", "a", "cc"] : List Str).take mn, r, 1, 1, cl⟩ o4 ⟨by show (1 : Int) ≤ (b : Int); omega, by show (b : Int) ≤ 8; omega, by show 1 ≤ List.length _; rw [hnl]; omega, by show List.length _ ≤ 6; rw [hnl]; omega, hnm, by show (0 : Int) ≤ (r : Int); omega, by show (r : Int) ≤ 12; omega, (by decide : (1 : Int) ≤ 1), (by decide : (1 : Int) ≤ 3), (by decide : (1 : Int) ≤ 1), (by decide : (1 : Int) ≤ 3), by show (0 : Int) ≤ (cl : Int); omega, hc1⟩ ?_ ho4
    show (b : Int) * (((List.take mn (["b", "a", "cc"] : List Str)).length : Nat) + (cl : Int)) ≤ 12
    rw [hnl, ← Int.natCast_add, ← Int.natCast_mul]
    omega
theorem go_machine {s : Addr} {n : Nat} {o : GO} {most : Int} {G : Gp} {R : DK} (e : G s = some o) (ho : BagO n o) (hn : n ≤ 800000) (h1 : 8 ≤ most) (h2 : most ≤ 12) (h : ∀ (M : Mach) o', M.ok → M.b * (M.names.length + M.c) ≤ 12 → BagO (n + 4) o' → R M.d (gup G s o')) : sp__law_machine [.ref s, .int most] G R := ⟨s, n, o, most, rfl, h1, h2, e, ho, hn, h⟩
end K68


set_option Elab.async false
set_option linter.all false
set_option maxRecDepth 100000
set_option maxHeartbeats 4000000
set_option autoImplicit false
namespace K68
open PySem PySem.Spec PyProof.Rows L2 DL
local macro_rules | `(tactic| walk_at "d") => `(tactic| dsimp only [dSeq, dNext, dIfS, dRet, dRetN, dAsg, dName, dVar, dC, dOp, dUn, dChain, dB, dAnd, dOr, dNot, dAndV, dOrV, dNotV, dIf, dNil, dCons, dTup, dLst, newL, dCallB, dCall, dCallK, dDrop, dAug, dAugS, dSub, dM, dM0, dSlice, dNoPart, dPart, dLc, dYes, dFor, dIter, dRng1, dEnum, dZipM, srcD, dStar, dInK, dIxK, dLenSet, dRev,
  startD, wipeD, setAll, dNames, List.map_cons, List.map_nil, List.length_cons, List.length_nil, List.replicate, List.cons_append, List.nil_append, List.append_nil, List.getElem?_cons_zero, List.getElem?_cons_succ, List.set_cons_zero, List.set_cons_succ, List.map, Nat.zero_add, Nat.reduceAdd, Nat.reduceSub, Nat.sub_self, Nat.succ_sub_succ_eq_sub])
local macro_rules | `(tactic| walk_at "o") => `(tactic| simp only [dAdd_ii, dAdd_ss, dAdd_tt, dAdd_ll, dMinus_ii, dMul_ii, dMod_ii, dFdiv_ii, dPow_ii, dShl_ii, dNeg_i, dIadd_ii, dLt_ii, dLe_ii, dGt_ii, dGe_ii, dEq_ii, dNe_ii, dEq_ss, dNe_ss, dEq_bb, dNe_bb, dIs_n, dIsNot_n, dMax2_ii, dMin2_ii, dTuple_t, dTuple_l, dList_t, dList_l, dIx_t, dIx_l, dIx_s, dSl_t, dSl_l, dSl_s, newL_f, len_tup, len_lst])
local macro_rules | `(tactic| walk_at "w") => `(tactic| dsimp only [x_var, x_c, x_op, x_un, x_b, x_and, x_or, x_not, x_chain, x_andV, x_orV, x_notV, x_if, x_nil, x_cons, x_tup, x_lst0, x_lst1, x_callB, x_call, x_callK, x_next, x_seq, x_break, x_cont, x_drop, x_ret, x_ifS, x_asg, x_name, x_names, x_sub, x_aug, x_augS, x_for, x_lc0, x_lc1, x_yes, x_noPart, x_part, x_slice, x_iter, it_t, it_l, it_n, it_s, it_r, x_rng1, x_enum, x_rev, x_m, x_m0, x_mX, x_zip, x_star_t, x_star_l, x_lenSet, x_forgo0, x_lcgo0, x_while, x_par, x_sortK,
  br_t, br_f, isB_bl, isI_int, isN_some, slo_some, atL_lst, ix_t, ix_l, ix_n,
  dAdd_ii, dAdd_ss, dAdd_tt, dAdd_ll, dMinus_ii, dMul_ii, dMod_ii, dFdiv_ii, dPow_ii, dShl_ii, dNeg_i, dIadd_ii, dLt_ii, dLe_ii, dGt_ii, dGe_ii, ltE_ii, ltE_ss, srcD, isi_i, isi_s, isi_b, isi_n, isi_t, isi_nt, isi_l, isi2_i, isi2_s, isi2_b, isi2_n, isi2_t, isi2_nt, isi2_l, inon_n, inon_i, inon_s, inon_b, inon_t, inon_l, inon_r, dEq_ii, dNe_ii, dEq_ss, dNe_ss, dEq_bb, dNe_bb, dIs_n, dIsNot_n, dMax2_ii, dMin2_ii, dTuple_t, dTuple_l, dList_t, dList_l, dSl_t, dSl_l, dSl_s, newL_f, newL_t, app_r, int_b, int_i, strI_i, strX_i, strX_s,
  startD, wipeD, setAll, permL, List.filterMap, List.map_cons, List.map_nil, List.length_cons, List.length_nil, List.replicate, List.cons_append, List.nil_append, List.append_nil, List.getElem?_cons_zero, List.getElem?_cons_succ, List.set_cons_zero, List.set_cons_succ, List.map, Nat.zero_add, Nat.reduceAdd, Nat.reduceSub, Nat.sub_self, Nat.succ_sub_succ_eq_sub])
local macro_rules | `(tactic| walk_at "v") => `(tactic| simp only [ofString_inj, String.reduceEq, at_0, at_1, at_2, at_3, at_4, at_5, isN_some, isBB_bl, isB_bl, br_t, br_f, br_not, br_and, br_or, br_dec, ix_r, len_tup, len_lst, len_nt, ltE_key, gup_gup, gup_same, starD_one, cut1, cut2, kt1, kt2, kt3, kt4, kt5, kt6, isTy, String.reduceBEq, Bool.or_false, Bool.false_or, Bool.true_or, Bool.or_true, Bool.and_false, Bool.false_and, Bool.true_and, Bool.and_true, Bool.not_true, Bool.not_false, decide_true, decide_false, eq_self_iff_true, Bool.false_eq_true, Int.reduceAdd, Int.add_zero, if_true, if_false, true_and, and_true])
local macro_rules | `(tactic| walk_at "side") => `(tactic| first | with_reducible assumption | omega | exact mty_up | exact True.intro | (simp only [List.mem_cons, ofString_inj, String.reduceEq, true_or, or_true, List.length_map]; done) | with_reducible exact (rfl : (_ : Nat) = _) | exact (rfl : (_ : Option String) = _) | (refine small_line ?_; omega) | (walk_at "ll"; first | omega | (refine small_line ?_; omega) | fail) | (exact log_small (by omega)) | fail)
local macro_rules | `(tactic| walk_at "x") => `(tactic| fail)
local macro_rules | `(tactic| walk_at "go") => `(tactic| repeat' (first | dsimp only [x_var, x_c, x_op, x_un, x_b, x_and, x_or, x_not, x_chain, x_andV, x_orV, x_notV, x_if, x_nil, x_cons, x_tup, x_lst0, x_lst1, x_callB, x_call, x_callK, x_next, x_seq, x_break, x_cont, x_drop, x_ret, x_ifS, x_asg, x_name, x_names, x_sub, x_aug, x_augS, x_for, x_lc0, x_lc1, x_yes, x_noPart, x_part, x_slice, x_iter, it_t, it_l, it_n, it_s, it_r, x_rng1, x_enum, x_rev, x_m, x_m0, x_mX, x_zip, x_star_t, x_star_l, x_lenSet, x_forgo0, x_lcgo0, x_while, x_par, x_sortK, br_t, br_f, isB_bl, isI_int, isN_some, slo_some, atL_lst, ix_t, ix_l, ix_n, dAdd_ii, dAdd_ss, dAdd_tt, dAdd_ll, dMinus_ii, dMul_ii, dMod_ii, dFdiv_ii, dPow_ii, dShl_ii, dNeg_i, dIadd_ii, dLt_ii, dLe_ii, dGt_ii, dGe_ii, ltE_ii, ltE_ss, srcD, isi_i, isi_s, isi_b, isi_n, isi_t, isi_nt, isi_l, isi2_i, isi2_s, isi2_b, isi2_n, isi2_t, isi2_nt, isi2_l, inon_n, inon_i, inon_s, inon_b, inon_t, inon_l, inon_r, dEq_ii, dNe_ii, dEq_ss, dNe_ss, dEq_bb, dNe_bb, dIs_n, dIsNot_n, dMax2_ii, dMin2_ii, dTuple_t, dTuple_l, dList_t, dList_l, dSl_t, dSl_l, dSl_s, newL_f, newL_t, app_r, int_b, int_i, strI_i, strX_i, strX_s, startD, wipeD, setAll, permL, List.filterMap, List.map_cons, List.map_nil, List.length_cons, List.length_nil, List.replicate, List.cons_append, List.nil_append, List.append_nil, List.getElem?_cons_zero, List.getElem?_cons_succ, List.set_cons_zero, List.set_cons_succ, List.map, Nat.zero_add, Nat.reduceAdd, Nat.reduceSub, Nat.sub_self, Nat.succ_sub_succ_eq_sub] | simp only [ofString_inj, String.reduceEq, at_0, at_1, at_2, at_3, at_4, at_5, isN_some, isBB_bl, isB_bl, br_t, br_f, br_not, br_and, br_or, br_dec, ix_r, len_tup, len_lst, len_nt, ltE_key, gup_gup, gup_same, starD_one, cut1, cut2, kt1, kt2, kt3, kt4, kt5, kt6, isTy, String.reduceBEq, Bool.or_false, Bool.false_or, Bool.true_or, Bool.or_true, Bool.and_false, Bool.false_and, Bool.true_and, Bool.and_true, Bool.not_true, Bool.not_false, decide_true, decide_false, eq_self_iff_true, Bool.false_eq_true, Int.reduceAdd, Int.add_zero, if_true, if_false, true_and, and_true] | walk_at "x" | with_reducible refine kont_go ?_ | with_reducible refine rt_sub (by assumption) ?_ | with_reducible refine rt_lst (by assumption) ?_ | with_reducible refine rt_drop (by assumption) ?_ | with_reducible refine rt_keep (by assumption) (by assumption) ?_ | with_reducible refine rt_same ?_ | (refine fun (p : Addr) (_ : _ = none) => ?_) | refine join_gor gup_same rfl (by walk_at "side") ?_ | with_reducible refine lc_cons ?_ | with_reducible refine for_cons ?_ | refine join_go rfl (by walk_at "side") ?_ | refine And.intro (by first | with_reducible assumption | omega | exact mty_up | exact True.intro | (simp only [List.mem_cons, ofString_inj, String.reduceEq, true_or, or_true, List.length_map]; done) | with_reducible exact (rfl : (_ : Nat) = _) | exact (rfl : (_ : Option String) = _) | (refine small_line ?_; omega) | (walk_at "ll"; first | omega | (refine small_line ?_; omega) | fail) | (exact log_small (by omega)) | fail) ?_ | fail))
local macro_rules | `(tactic| walk_at "ll") => `(tactic| simp only [List.length_map, List.length_append, List.length_cons, List.length_nil, List.map_cons, List.map_nil, List.sum_cons, List.sum_nil, len_app, rng_length, ll_0, ll_1, ll_2, ll_3, ll_4, ll_5, ll_6, ll_7, ll_8, ll_9, ll_10, ll_11, ll_12, ll_13, ll_14, ll_15, ll_16, ll_17, ll_18, ll_19, ll_20, ll_21, ll_22, ll_23, ll_24, ll_25, ll_26, ll_27, ll_28, ll_29, ll_30, ll_31, ll_32, ll_33, ll_34])
/-! ### the term of a place -/
def placeT (M : Mach) (k : Nat) : Tm := if k < M.names.length then .reg (M.names.getD k "") else .load (.num (k - M.names.length))
def sp__law_term : DSp := fun ds G R => ∃ (M : Mach) (k : Nat), ds = [M.d, .int k] ∧ M.ok ∧ k ≤ 1000 ∧ R (placeT M k).d G
theorem ok__law_term {P : Program} {w : World} {K : PySem.W.Frag} {mg : Str → Option Value} {base : Heap} {a : Ad} (T : Tx w K mg a) : FnD P w K mg base 1 a.f__law_term a.fd__law_term ["machine", "at"] sp__law_term := by
  refine fun_okD T.F__law_term sc__law_term (fun ds G R h => ?_) (fun cdv A outer s H hr => ⟨_, (qss_cons (qs_set (i := 2) sc__law_term.nd rfl (.inl rfl) (qe_callB cd_len rfl T.n_len (by decide +kernel) (qa_cons (qe_ix xd_ix (qv 0) qe_int (fun _ _ => rfl)) qa_nil)))
      (qss_cons (qs_if (qt_cmp (od_ltE (room100 hr)) (qv 1) (qv 2) (nomark _))
      (qss_one (qs_ret (qe_tup (qa_cons qe_str (qa_cons (qe_ix xd_ix (qe_ix xd_ix (qv 0) qe_int (fun _ _ => rfl)) (qv 1) (fun _ _ => rfl)) qa_nil)))))
      qss_nil)
      (qss_one (qs_ret (qe_tup (qa_cons qe_str (qa_cons (qe_tup (qa_cons qe_str (qa_cons (qe_op od_sub (qv 1) (qv 2)) qa_nil))) qa_nil))))))), fun ds G R h => ?_⟩)
  · obtain ⟨M, k, rfl, _⟩ := h; rfl
  · obtain ⟨M, k, rfl, hM, hk, h⟩ := h
    have hn2 := hM.n2
    unfold Mach.d
    walk_at "go"
    unfold placeT at h
    by_cases hkn : k < M.names.length
    · rw [if_pos (by omega)]
      rw [if_pos hkn] at h
      walk_at "go"
      rw [atI_nat (j := k) (v := .str M.names[k]) (by rw [List.getElem?_map, List.getElem?_eq_getElem hkn]; rfl)]
      walk_at "go"
      rw [List.getD_eq_getElem?_getD, List.getElem?_eq_getElem hkn] at h
      exact h
    · rw [if_neg (by omega)]
      rw [if_neg hkn] at h
      walk_at "go"
      rw [show ((k : Int) - (M.names.length : Int)) = ((k - M.names.length : Nat) : Int) by omega]
      exact h
theorem go_term {M : Mach} {k : Nat} {G : Gp} {R : DK} (hM : M.ok) (hk : k ≤ 1000) (h : R (placeT M k).d G) : sp__law_term [M.d, .int k] G R := ⟨M, k, rfl, hM, hk, h⟩
end K68


set_option Elab.async false
set_option linter.all false
set_option maxRecDepth 100000
set_option maxHeartbeats 4000000
set_option autoImplicit false
namespace K68
open PySem PySem.Spec PyProof.Rows L2 DL
local macro_rules | `(tactic| walk_at "d") => `(tactic| dsimp only [dSeq, dNext, dIfS, dRet, dRetN, dAsg, dName, dVar, dC, dOp, dUn, dChain, dB, dAnd, dOr, dNot, dAndV, dOrV, dNotV, dIf, dNil, dCons, dTup, dLst, newL, dCallB, dCall, dCallK, dDrop, dAug, dAugS, dSub, dM, dM0, dSlice, dNoPart, dPart, dLc, dYes, dFor, dIter, dRng1, dEnum, dZipM, srcD, dStar, dInK, dIxK, dLenSet, dRev,
  startD, wipeD, setAll, dNames, List.map_cons, List.map_nil, List.length_cons, List.length_nil, List.replicate, List.cons_append, List.nil_append, List.append_nil, List.getElem?_cons_zero, List.getElem?_cons_succ, List.set_cons_zero, List.set_cons_succ, List.map, Nat.zero_add, Nat.reduceAdd, Nat.reduceSub, Nat.sub_self, Nat.succ_sub_succ_eq_sub])
local macro_rules | `(tactic| walk_at "o") => `(tactic| simp only [dAdd_ii, dAdd_ss, dAdd_tt, dAdd_ll, dMinus_ii, dMul_ii, dMod_ii, dFdiv_ii, dPow_ii, dShl_ii, dNeg_i, dIadd_ii, dLt_ii, dLe_ii, dGt_ii, dGe_ii, dEq_ii, dNe_ii, dEq_ss, dNe_ss, dEq_bb, dNe_bb, dIs_n, dIsNot_n, dMax2_ii, dMin2_ii, dTuple_t, dTuple_l, dList_t, dList_l, dIx_t, dIx_l, dIx_s, dSl_t, dSl_l, dSl_s, newL_f, len_tup, len_lst])
local macro_rules | `(tactic| walk_at "w") => `(tactic| dsimp only [x_var, x_c, x_op, x_un, x_b, x_and, x_or, x_not, x_chain, x_andV, x_orV, x_notV, x_if, x_nil, x_cons, x_tup, x_lst0, x_lst1, x_callB, x_call, x_callK, x_next, x_seq, x_break, x_cont, x_drop, x_ret, x_ifS, x_asg, x_name, x_names, x_sub, x_aug, x_augS, x_for, x_lc0, x_lc1, x_yes, x_noPart, x_part, x_slice, x_iter, it_t, it_l, it_n, it_s, it_r, x_rng1, x_enum, x_rev, x_m, x_m0, x_mX, x_zip, x_star_t, x_star_l, x_lenSet, x_forgo0, x_lcgo0, x_while, x_par, x_sortK,
  br_t, br_f, isB_bl, isI_int, isN_some, slo_some, atL_lst, ix_t, ix_l, ix_n,
  dAdd_ii, dAdd_ss, dAdd_tt, dAdd_ll, dMinus_ii, dMul_ii, dMod_ii, dFdiv_ii, dPow_ii, dShl_ii, dNeg_i, dIadd_ii, dLt_ii, dLe_ii, dGt_ii, dGe_ii, ltE_ii, ltE_ss, srcD, isi_i, isi_s, isi_b, isi_n, isi_t, isi_nt, isi_l, isi2_i, isi2_s, isi2_b, isi2_n, isi2_t, isi2_nt, isi2_l, inon_n, inon_i, inon_s, inon_b, inon_t, inon_l, inon_r, dEq_ii, dNe_ii, dEq_ss, dNe_ss, dEq_bb, dNe_bb, dIs_n, dIsNot_n, dMax2_ii, dMin2_ii, dTuple_t, dTuple_l, dList_t, dList_l, dSl_t, dSl_l, dSl_s, newL_f, newL_t, app_r, int_b, int_i, strI_i, strX_i, strX_s,
  startD, wipeD, setAll, permL, List.filterMap, List.map_cons, List.map_nil, List.length_cons, List.length_nil, List.replicate, List.cons_append, List.nil_append, List.append_nil, List.getElem?_cons_zero, List.getElem?_cons_succ, List.set_cons_zero, List.set_cons_succ, List.map, Nat.zero_add, Nat.reduceAdd, Nat.reduceSub, Nat.sub_self, Nat.succ_sub_succ_eq_sub])
local macro_rules | `(tactic| walk_at "v") => `(tactic| simp only [ofString_inj, String.reduceEq, at_0, at_1, at_2, at_3, at_4, at_5, isN_some, isBB_bl, isB_bl, br_t, br_f, br_not, br_and, br_or, br_dec, ix_r, len_tup, len_lst, len_nt, ltE_key, gup_gup, gup_same, starD_one, cut1, cut2, kt1, kt2, kt3, kt4, kt5, kt6, isTy, String.reduceBEq, Bool.or_false, Bool.false_or, Bool.true_or, Bool.or_true, Bool.and_false, Bool.false_and, Bool.true_and, Bool.and_true, Bool.not_true, Bool.not_false, decide_true, decide_false, eq_self_iff_true, Bool.false_eq_true, Int.reduceAdd, Int.add_zero, if_true, if_false, true_and, and_true])
local macro_rules | `(tactic| walk_at "side") => `(tactic| first | with_reducible assumption | omega | exact mty_up | exact True.intro | (simp only [List.mem_cons, ofString_inj, String.reduceEq, true_or, or_true, List.length_map]; done) | with_reducible exact (rfl : (_ : Nat) = _) | exact (rfl : (_ : Option String) = _) | (refine small_line ?_; omega) | (walk_at "ll"; first | omega | (refine small_line ?_; omega) | fail) | (exact log_small (by omega)) | fail)
local macro_rules | `(tactic| walk_at "x") => `(tactic| fail)
local macro_rules | `(tactic| walk_at "go") => `(tactic| repeat' (first | dsimp only [x_var, x_c, x_op, x_un, x_b, x_and, x_or, x_not, x_chain, x_andV, x_orV, x_notV, x_if, x_nil, x_cons, x_tup, x_lst0, x_lst1, x_callB, x_call, x_callK, x_next, x_seq, x_break, x_cont, x_drop, x_ret, x_ifS, x_asg, x_name, x_names, x_sub, x_aug, x_augS, x_for, x_lc0, x_lc1, x_yes, x_noPart, x_part, x_slice, x_iter, it_t, it_l, it_n, it_s, it_r, x_rng1, x_enum, x_rev, x_m, x_m0, x_mX, x_zip, x_star_t, x_star_l, x_lenSet, x_forgo0, x_lcgo0, x_while, x_par, x_sortK, br_t, br_f, isB_bl, isI_int, isN_some, slo_some, atL_lst, ix_t, ix_l, ix_n, dAdd_ii, dAdd_ss, dAdd_tt, dAdd_ll, dMinus_ii, dMul_ii, dMod_ii, dFdiv_ii, dPow_ii, dShl_ii, dNeg_i, dIadd_ii, dLt_ii, dLe_ii, dGt_ii, dGe_ii, ltE_ii, ltE_ss, srcD, isi_i, isi_s, isi_b, isi_n, isi_t, isi_nt, isi_l, isi2_i, isi2_s, isi2_b, isi2_n, isi2_t, isi2_nt, isi2_l, inon_n, inon_i, inon_s, inon_b, inon_t, inon_l, inon_r, dEq_ii, dNe_ii, dEq_ss, dNe_ss, dEq_bb, dNe_bb, dIs_n, dIsNot_n, dMax2_ii, dMin2_ii, dTuple_t, dTuple_l, dList_t, dList_l, dSl_t, dSl_l, dSl_s, newL_f, newL_t, app_r, int_b, int_i, strI_i, strX_i, strX_s, startD, wipeD, setAll, permL, List.filterMap, List.map_cons, List.map_nil, List.length_cons, List.length_nil, List.replicate, List.cons_append, List.nil_append, List.append_nil, List.getElem?_cons_zero, List.getElem?_cons_succ, List.set_cons_zero, List.set_cons_succ, List.map, Nat.zero_add, Nat.reduceAdd, Nat.reduceSub, Nat.sub_self, Nat.succ_sub_succ_eq_sub] | simp only [ofString_inj, String.reduceEq, at_0, at_1, at_2, at_3, at_4, at_5, isN_some, isBB_bl, isB_bl, br_t, br_f, br_not, br_and, br_or, br_dec, ix_r, len_tup, len_lst, len_nt, ltE_key, gup_gup, gup_same, starD_one, cut1, cut2, kt1, kt2, kt3, kt4, kt5, kt6, isTy, String.reduceBEq, Bool.or_false, Bool.false_or, Bool.true_or, Bool.or_true, Bool.and_false, Bool.false_and, Bool.true_and, Bool.and_true, Bool.not_true, Bool.not_false, decide_true, decide_false, eq_self_iff_true, Bool.false_eq_true, Int.reduceAdd, Int.add_zero, if_true, if_false, true_and, and_true] | walk_at "x" | with_reducible refine kont_go ?_ | with_reducible refine rt_sub (by assumption) ?_ | with_reducible refine rt_lst (by assumption) ?_ | with_reducible refine rt_drop (by assumption) ?_ | with_reducible refine rt_keep (by assumption) (by assumption) ?_ | with_reducible refine rt_same ?_ | (refine fun (p : Addr) (_ : _ = none) => ?_) | refine join_gor gup_same rfl (by walk_at "side") ?_ | with_reducible refine lc_cons ?_ | with_reducible refine for_cons ?_ | refine join_go rfl (by walk_at "side") ?_ | refine And.intro (by first | with_reducible assumption | omega | exact mty_up | exact True.intro | (simp only [List.mem_cons, ofString_inj, String.reduceEq, true_or, or_true, List.length_map]; done) | with_reducible exact (rfl : (_ : Nat) = _) | exact (rfl : (_ : Option String) = _) | (refine small_line ?_; omega) | (walk_at "ll"; first | omega | (refine small_line ?_; omega) | fail) | (exact log_small (by omega)) | fail) ?_ | fail))
local macro_rules | `(tactic| walk_at "ll") => `(tactic| simp only [List.length_map, List.length_append, List.length_cons, List.length_nil, List.map_cons, List.map_nil, List.sum_cons, List.sum_nil, len_app, rng_length, ll_0, ll_1, ll_2, ll_3, ll_4, ll_5, ll_6, ll_7, ll_8, ll_9, ll_10, ll_11, ll_12, ll_13, ll_14, ll_15, ll_16, ll_17, ll_18, ll_19, ll_20, ll_21, ll_22, ll_23, ll_24, ll_25, ll_26, ll_27, ll_28, ll_29, ll_30, ll_31, ll_32, ll_33, ll_34])

/-! ### the same: None, numbers, tuples of these -/
inductive Pln : Nat → D → Prop
  | non {n : Nat} : Pln n .non
  | int {n : Nat} (i : Int) : Pln n (.int i)
  | tup {n : Nat} (ds : List D) : ds.length ≤ 1000 → (∀ d ∈ ds, Pln n d) → Pln (n + 1) (.tup ds)
theorem zipD_self : ∀ ds : List D, zipD ds ds = ds.map fun d => D.tup [d, d]
  | [] => rfl
  | d :: ds => by rw [zipD, zipD_self ds]; rfl
def sp__law_same (n : Nat) : DSp := fun ds G R => ∃ x, ds = [x, x] ∧ Pln n x ∧ R (.bl true) G
theorem ok0__law_same {P : Program} {w : World} {K : PySem.W.Frag} {mg : Str → Option Value} {base : Heap} {a : Ad} (T : Tx w K mg a) {n j : Nat} {sp' : DSp} (ih : FnD P w K mg base j a.f__law_same a.fd__law_same ["found", "due"] sp') (hj : j ≤ n) (hs : ∀ m, n = m + 1 → ∀ ds G R, sp__law_same m ds G R → sp' ds G R) : FnD P w K mg base (n + 1) a.f__law_same a.fd__law_same ["found", "due"] (sp__law_same n) := by
  refine fun_okD T.F__law_same sc__law_same (fun ds G R h => ?_) (fun cdv A outer s H hr => ⟨_, (qss_cons (qs_if (qt_cmp od_is (qv 1) qe_non (nomark _))
      (qss_one (qs_ret (qe_cmp od_is (qv 0) qe_non (nomark _))))
      qss_nil)
      (qss_cons (qs_if (qt_val (qe_callB cd_isiX rfl T.n_isinstance (by decide +kernel) (qa_cons (qv 1) (qa_cons (qe_ty (n := "int") rfl T.n_int (by decide +kernel)) qa_nil))))
      (qss_one (qs_ret (qe_and (qe_callB cd_isiX rfl T.n_isinstance (by decide +kernel) (qa_cons (qv 0) (qa_cons (qe_ty (n := "int") rfl T.n_int (by decide +kernel)) qa_nil))) (qe_and (qe_not (qe_callB cd_isiX rfl T.n_isinstance (by decide +kernel) (qa_cons (qv 0) (qa_cons (qe_ty (n := "bool") rfl T.n_bool (by decide +kernel)) qa_nil)))) (qe_one (qe_cmp (od_eq hr.units) (qv 0) (qv 1) (nomark _)))))))
      qss_nil)
      (qss_cons (qs_if (qt_val (qe_callB cd_isiX rfl T.n_isinstance (by decide +kernel) (qa_cons (qv 1) (qa_cons (qe_ty (n := "str") rfl T.n_str (by decide +kernel)) qa_nil))))
      (qss_one (qs_ret (qe_and (qe_callB cd_isiX rfl T.n_isinstance (by decide +kernel) (qa_cons (qv 0) (qa_cons (qe_ty (n := "str") rfl T.n_str (by decide +kernel)) qa_nil))) (qe_one (qe_cmp (od_eq hr.units) (qv 0) (qv 1) (nomark _))))))
      qss_nil)
      (qss_cons (qs_if (QW.pt (qw_or (qt_cmp (od_ne hr.units) (qe_callB cd_isiX rfl T.n_isinstance (by decide +kernel) (qa_cons (qv 1) (qa_cons (qe_ty (n := "tuple") rfl T.n_tuple (by decide +kernel)) qa_nil))) (qe_callB cd_isiX rfl T.n_isinstance (by decide +kernel) (qa_cons (qv 0) (qa_cons (qe_ty (n := "tuple") rfl T.n_tuple (by decide +kernel)) qa_nil))) (nomark _)) (qw_or1 (qt_cmp (od_ne hr.units) (qe_callB cd_isiX rfl T.n_isinstance (by decide +kernel) (qa_cons (qv 1) (qa_cons (qe_ty (n := "list") rfl T.n_list (by decide +kernel)) qa_nil))) (qe_callB cd_isiX rfl T.n_isinstance (by decide +kernel) (qa_cons (qv 0) (qa_cons (qe_ty (n := "list") rfl T.n_list (by decide +kernel)) qa_nil))) (nomark _)))))
      (qss_one (qs_ret qe_bl))
      qss_nil)
      (qss_one (qs_ret (qe_and (qe_cmp (od_eq hr.units) (qe_callB cd_len rfl T.n_len (by decide +kernel) (qa_cons (qv 0) qa_nil)) (qe_callB cd_len rfl T.n_len (by decide +kernel) (qa_cons (qv 1) qa_nil)) (nomark _)) (qe_one (qe_callB (cd_all rfl) rfl T.n_all (by decide +kernel) (qa_cons (qe_lc false rfl sc__law_same.nd (qi_zipM rfl T.n_zip (qa_cons (qv 0) (qa_cons (qv 1) qa_nil))) (blkOk_by (own := [("one", 2), ("other", 3)]) (N := N__law_same) (sc := defScope s__law_same) (by decide +kernel)) (fun _ _ _ _ _ => (pg_tup rfl (pgs_cons (pg_name (i := 2) sc__law_same.nd rfl (.inl rfl)) (pgs_cons (pg_name (i := 3) sc__law_same.nd rfl (.inl rfl)) pgs_nil)))) (tg_names (is := [2, 3]) (by decide) rfl) (fun _ _ _ _ _ => qts_nil) (fun _ _ _ _ _ => (qe_call ih (hr.mono (by omega)) rfl T.g__law_same T.F__law_same.kp T.b__law_same (qa_cons (qv 2) (qa_cons (qv 3) qa_nil))))) qa_nil)))))))))), fun ds G R h => ?_⟩)
  · obtain ⟨x, rfl, _⟩ := h; rfl
  · obtain ⟨x, rfl, hx, h⟩ := h
    cases hx with
    | non => walk_at "go"; exact h
    | int i =>
      walk_at "go"
      exact h
    | tup ds hl hds =>
      walk_at "go"
      rw [zipD_self]
      refine ⟨small_line (by rw [List.length_map]; omega), ?_⟩
      refine all_typ (fun d : D => D.tup [d, d]) (fun _ => true) True.intro ds (fun d hd Q q => ?_) ?_
      · walk_at "go"
        exact hs _ rfl _ _ _ ⟨_, rfl, hds d hd, q⟩
      · rw [List.all_eq_true.mpr fun _ _ => rfl]
        walk_at "go"
        exact h
theorem ok__law_same_n {P : Program} {w : World} {K : PySem.W.Frag} {mg : Str → Option Value} {base : Heap} {a : Ad} (T : Tx w K mg a) : ∀ n : Nat, FnD P w K mg base (n + 1) a.f__law_same a.fd__law_same ["found", "due"] (sp__law_same n)
  | 0 => ok0__law_same T (j := 0) fnd_never (by omega) (fun m e => by omega)
  | n + 1 => ok0__law_same T (ok__law_same_n T n) (by omega) (fun m e ds G R h => by
    have : n = m := by omega
    subst this
    exact h)
theorem ok__law_same {P : Program} {w : World} {K : PySem.W.Frag} {mg : Str → Option Value} {base : Heap} {a : Ad} (T : Tx w K mg a) : FnD P w K mg base 4 a.f__law_same a.fd__law_same ["found", "due"] (sp__law_same 3) := ok__law_same_n T 3
theorem go_same {x : D} {G : Gp} {R : DK} (hx : Pln 3 x) (k : R (.bl true) G) : sp__law_same 3 [x, x] G R := ⟨x, rfl, hx, k⟩
theorem pln_ints {n : Nat} {l : List Int} (h : l.length ≤ 1000) : Pln (n + 1) (intsD l) := .tup _ (by rw [List.length_map]; exact h) fun d hd => by
  obtain ⟨z, _, rfl⟩ := List.mem_map.mp hd
  exact .int z
end K68


set_option Elab.async false
set_option linter.all false
set_option maxRecDepth 100000
set_option maxHeartbeats 4000000
set_option autoImplicit false
namespace K68
open PySem PySem.Spec PyProof.Rows L2 DL
local macro_rules | `(tactic| walk_at "d") => `(tactic| dsimp only [dSeq, dNext, dIfS, dRet, dRetN, dAsg, dName, dVar, dC, dOp, dUn, dChain, dB, dAnd, dOr, dNot, dAndV, dOrV, dNotV, dIf, dNil, dCons, dTup, dLst, newL, dCallB, dCall, dCallK, dDrop, dAug, dAugS, dSub, dM, dM0, dSlice, dNoPart, dPart, dLc, dYes, dFor, dIter, dRng1, dEnum, dZipM, srcD, dStar, dInK, dIxK, dLenSet, dRev,
  startD, wipeD, setAll, dNames, List.map_cons, List.map_nil, List.length_cons, List.length_nil, List.replicate, List.cons_append, List.nil_append, List.append_nil, List.getElem?_cons_zero, List.getElem?_cons_succ, List.set_cons_zero, List.set_cons_succ, List.map, Nat.zero_add, Nat.reduceAdd, Nat.reduceSub, Nat.sub_self, Nat.succ_sub_succ_eq_sub])
local macro_rules | `(tactic| walk_at "o") => `(tactic| simp only [dAdd_ii, dAdd_ss, dAdd_tt, dAdd_ll, dMinus_ii, dMul_ii, dMod_ii, dFdiv_ii, dPow_ii, dShl_ii, dNeg_i, dIadd_ii, dLt_ii, dLe_ii, dGt_ii, dGe_ii, dEq_ii, dNe_ii, dEq_ss, dNe_ss, dEq_bb, dNe_bb, dIs_n, dIsNot_n, dMax2_ii, dMin2_ii, dTuple_t, dTuple_l, dList_t, dList_l, dIx_t, dIx_l, dIx_s, dSl_t, dSl_l, dSl_s, newL_f, len_tup, len_lst])
local macro_rules | `(tactic| walk_at "w") => `(tactic| dsimp only [x_var, x_c, x_op, x_un, x_b, x_and, x_or, x_not, x_chain, x_andV, x_orV, x_notV, x_if, x_nil, x_cons, x_tup, x_lst0, x_lst1, x_callB, x_call, x_callK, x_next, x_seq, x_break, x_cont, x_drop, x_ret, x_ifS, x_asg, x_name, x_names, x_sub, x_aug, x_augS, x_for, x_lc0, x_lc1, x_yes, x_noPart, x_part, x_slice, x_iter, it_t, it_l, it_n, it_s, it_r, x_rng1, x_enum, x_rev, x_m, x_m0, x_mX, x_zip, x_star_t, x_star_l, x_lenSet, x_forgo0, x_lcgo0, x_while, x_par, x_sortK,
  br_t, br_f, isB_bl, isI_int, isN_some, slo_some, atL_lst, ix_t, ix_l, ix_n,
  dAdd_ii, dAdd_ss, dAdd_tt, dAdd_ll, dMinus_ii, dMul_ii, dMod_ii, dFdiv_ii, dPow_ii, dShl_ii, dNeg_i, dIadd_ii, dLt_ii, dLe_ii, dGt_ii, dGe_ii, ltE_ii, ltE_ss, srcD, isi_i, isi_s, isi_b, isi_n, isi_t, isi_nt, isi_l, isi2_i, isi2_s, isi2_b, isi2_n, isi2_t, isi2_nt, isi2_l, inon_n, inon_i, inon_s, inon_b, inon_t, inon_l, inon_r, dEq_ii, dNe_ii, dEq_ss, dNe_ss, dEq_bb, dNe_bb, dIs_n, dIsNot_n, dMax2_ii, dMin2_ii, dTuple_t, dTuple_l, dList_t, dList_l, dSl_t, dSl_l, dSl_s, newL_f, newL_t, app_r, int_b, int_i, strI_i, strX_i, strX_s,
  startD, wipeD, setAll, permL, List.filterMap, List.map_cons, List.map_nil, List.length_cons, List.length_nil, List.replicate, List.cons_append, List.nil_append, List.append_nil, List.getElem?_cons_zero, List.getElem?_cons_succ, List.set_cons_zero, List.set_cons_succ, List.map, Nat.zero_add, Nat.reduceAdd, Nat.reduceSub, Nat.sub_self, Nat.succ_sub_succ_eq_sub])
local macro_rules | `(tactic| walk_at "v") => `(tactic| simp only [ofString_inj, String.reduceEq, at_0, at_1, at_2, at_3, at_4, at_5, isN_some, isBB_bl, isB_bl, br_t, br_f, br_not, br_and, br_or, br_dec, ix_r, len_tup, len_lst, len_nt, ltE_key, gup_gup, gup_same, starD_one, cut1, cut2, kt1, kt2, kt3, kt4, kt5, kt6, isTy, String.reduceBEq, Bool.or_false, Bool.false_or, Bool.true_or, Bool.or_true, Bool.and_false, Bool.false_and, Bool.true_and, Bool.and_true, Bool.not_true, Bool.not_false, decide_true, decide_false, eq_self_iff_true, Bool.false_eq_true, Int.reduceAdd, Int.add_zero, if_true, if_false, true_and, and_true])
local macro_rules | `(tactic| walk_at "side") => `(tactic| first | with_reducible assumption | omega | exact mty_up | exact True.intro | (simp only [List.mem_cons, ofString_inj, String.reduceEq, true_or, or_true, List.length_map]; done) | with_reducible exact (rfl : (_ : Nat) = _) | exact (rfl : (_ : Option String) = _) | (refine small_line ?_; omega) | (walk_at "ll"; first | omega | (refine small_line ?_; omega) | fail) | (exact log_small (by omega)) | fail)
local macro_rules | `(tactic| walk_at "x") => `(tactic| fail)
local macro_rules | `(tactic| walk_at "go") => `(tactic| repeat' (first | dsimp only [x_var, x_c, x_op, x_un, x_b, x_and, x_or, x_not, x_chain, x_andV, x_orV, x_notV, x_if, x_nil, x_cons, x_tup, x_lst0, x_lst1, x_callB, x_call, x_callK, x_next, x_seq, x_break, x_cont, x_drop, x_ret, x_ifS, x_asg, x_name, x_names, x_sub, x_aug, x_augS, x_for, x_lc0, x_lc1, x_yes, x_noPart, x_part, x_slice, x_iter, it_t, it_l, it_n, it_s, it_r, x_rng1, x_enum, x_rev, x_m, x_m0, x_mX, x_zip, x_star_t, x_star_l, x_lenSet, x_forgo0, x_lcgo0, x_while, x_par, x_sortK, br_t, br_f, isB_bl, isI_int, isN_some, slo_some, atL_lst, ix_t, ix_l, ix_n, dAdd_ii, dAdd_ss, dAdd_tt, dAdd_ll, dMinus_ii, dMul_ii, dMod_ii, dFdiv_ii, dPow_ii, dShl_ii, dNeg_i, dIadd_ii, dLt_ii, dLe_ii, dGt_ii, dGe_ii, ltE_ii, ltE_ss, srcD, isi_i, isi_s, isi_b, isi_n, isi_t, isi_nt, isi_l, isi2_i, isi2_s, isi2_b, isi2_n, isi2_t, isi2_nt, isi2_l, inon_n, inon_i, inon_s, inon_b, inon_t, inon_l, inon_r, dEq_ii, dNe_ii, dEq_ss, dNe_ss, dEq_bb, dNe_bb, dIs_n, dIsNot_n, dMax2_ii, dMin2_ii, dTuple_t, dTuple_l, dList_t, dList_l, dSl_t, dSl_l, dSl_s, newL_f, newL_t, app_r, int_b, int_i, strI_i, strX_i, strX_s, startD, wipeD, setAll, permL, List.filterMap, List.map_cons, List.map_nil, List.length_cons, List.length_nil, List.replicate, List.cons_append, List.nil_append, List.append_nil, List.getElem?_cons_zero, List.getElem?_cons_succ, List.set_cons_zero, List.set_cons_succ, List.map, Nat.zero_add, Nat.reduceAdd, Nat.reduceSub, Nat.sub_self, Nat.succ_sub_succ_eq_sub] | simp only [ofString_inj, String.reduceEq, at_0, at_1, at_2, at_3, at_4, at_5, isN_some, isBB_bl, isB_bl, br_t, br_f, br_not, br_and, br_or, br_dec, ix_r, len_tup, len_lst, len_nt, ltE_key, gup_gup, gup_same, starD_one, cut1, cut2, kt1, kt2, kt3, kt4, kt5, kt6, isTy, String.reduceBEq, Bool.or_false, Bool.false_or, Bool.true_or, Bool.or_true, Bool.and_false, Bool.false_and, Bool.true_and, Bool.and_true, Bool.not_true, Bool.not_false, decide_true, decide_false, eq_self_iff_true, Bool.false_eq_true, Int.reduceAdd, Int.add_zero, if_true, if_false, true_and, and_true] | walk_at "x" | with_reducible refine kont_go ?_ | with_reducible refine rt_sub (by assumption) ?_ | with_reducible refine rt_lst (by assumption) ?_ | with_reducible refine rt_drop (by assumption) ?_ | with_reducible refine rt_keep (by assumption) (by assumption) ?_ | with_reducible refine rt_same ?_ | (refine fun (p : Addr) (_ : _ = none) => ?_) | refine join_gor gup_same rfl (by walk_at "side") ?_ | with_reducible refine lc_cons ?_ | with_reducible refine for_cons ?_ | refine join_go rfl (by walk_at "side") ?_ | refine And.intro (by first | with_reducible assumption | omega | exact mty_up | exact True.intro | (simp only [List.mem_cons, ofString_inj, String.reduceEq, true_or, or_true, List.length_map]; done) | with_reducible exact (rfl : (_ : Nat) = _) | exact (rfl : (_ : Option String) = _) | (refine small_line ?_; omega) | (walk_at "ll"; first | omega | (refine small_line ?_; omega) | fail) | (exact log_small (by omega)) | fail) ?_ | fail))
local macro_rules | `(tactic| walk_at "ll") => `(tactic| simp only [List.length_map, List.length_append, List.length_cons, List.length_nil, List.map_cons, List.map_nil, List.sum_cons, List.sum_nil, len_app, rng_length, ll_0, ll_1, ll_2, ll_3, ll_4, ll_5, ll_6, ll_7, ll_8, ll_9, ll_10, ll_11, ll_12, ll_13, ll_14, ll_15, ll_16, ll_17, ll_18, ll_19, ll_20, ll_21, ll_22, ll_23, ll_24, ll_25, ll_26, ll_27, ll_28, ll_29, ll_30, ll_31, ll_32, ll_33, ll_34])
/-! ### which state differs first: the plain law -/
/-- pointwise no greater -/
def Ple (w l : List Int) : Prop := ∀ i : Nat, w.getD i 0 ≤ l.getD i 0
theorem getD_left {r s : List Int} {i : Nat} (h : i < r.length) : (r ++ s).getD i 0 = r.getD i 0 := by
  rw [List.getD_eq_getElem?_getD, List.getD_eq_getElem?_getD, List.getElem?_append_left h]
theorem getD_last {r : List Int} {x : Int} : (r ++ [x]).getD r.length 0 = x := by
  rw [List.getD_eq_getElem?_getD, List.getElem?_append_right (Nat.le_refl _), Nat.sub_self]; rfl
theorem getD_out {r : List Int} {i : Nat} (h : r.length ≤ i) : r.getD i 0 = 0 := by
  rw [List.getD_eq_getElem?_getD, List.getElem?_eq_none h]; rfl
theorem allW_pair (t : Nat) : ∀ m, (allW t m).Pairwise fun a b => ¬ Ple b a
  | 0 => List.pairwise_singleton _ _
  | m + 1 => by
    rw [allW, List.pairwise_flatMap]
    refine ⟨fun row hr => ?_, ?_⟩
    · rw [List.pairwise_map]
      refine List.Pairwise.imp ?_ (List.pairwise_lt_range (n := t))
      intro i j hij h
      have h1 := h row.length
      rw [getD_last, getD_last] at h1
      omega
    · refine List.Pairwise.imp_of_mem ?_ (allW_pair t m)
      intro a b ha hb hn x hx y hy h
      obtain ⟨i, _, rfl⟩ := List.mem_map.mp hx
      obtain ⟨j, _, rfl⟩ := List.mem_map.mp hy
      refine hn fun k => ?_
      have la := allW_row _ _ _ ha
      have lb := allW_row _ _ _ hb
      by_cases hk : k < m
      · have h1 := h k
        rw [getD_left (by omega), getD_left (by omega)] at h1
        exact h1
      · rw [getD_out (by omega), getD_out (by omega)]
        omega
theorem allW_in (t : Nat) : ∀ (m : Nat) (l : List Int), l.length = m → (∀ z ∈ l, 0 ≤ z ∧ z < (t : Nat)) → l ∈ allW t m
  | 0, l, h, _ => by rw [List.length_eq_zero_iff.mp h]; exact List.mem_singleton.mpr rfl
  | m + 1, l, h, hz => by
    have hne : l ≠ [] := fun e => by rw [e] at h; cases h
    rw [allW, List.mem_flatMap]
    refine ⟨l.dropLast, allW_in t m _ (by rw [List.length_dropLast]; omega) fun z h' => hz z (List.dropLast_subset _ h'), ?_⟩
    rw [List.mem_map]
    have hl := hz _ (List.getLast_mem hne)
    refine ⟨(l.getLast hne).toNat, List.mem_range.mpr (by omega), ?_⟩
    rw [show (((l.getLast hne).toNat : Nat) : Int) = l.getLast hne by omega]
    exact List.dropLast_concat_getLast hne
theorem difL_find {M : Mach} {m : Mn} {w : List Int} : ∀ ls : List (List Int), ls.Pairwise (fun a b => ¬ Ple b a) → w ∈ ls → difB M m w = true → (∀ l ∈ ls, difB M m l = true → Ple w l) → difL M m ls = (wldOf M w).d
  | [], _, h, _, _ => by cases h
  | l :: ls, hp, hw, hd, ha => by
    rw [List.pairwise_cons] at hp
    show (if difB M m l then _ else _) = _
    rcases List.mem_cons.mp hw with rfl | hw'
    · rw [hd, if_pos rfl]
    · cases hb : difB M m l with
      | true => exact absurd (ha l List.mem_cons_self hb) (hp.1 w hw')
      | false => rw [if_neg Bool.false_ne_true]; exact difL_find ls hp.2 hw' hd fun l' hl' => ha l' (List.mem_cons_of_mem _ hl')
theorem difL_none {M : Mach} {m : Mn} : ∀ ls : List (List Int), (∀ l ∈ ls, difB M m l = false) → difL M m ls = .non
  | [], _ => rfl
  | l :: ls, ha => by
    show (if difB M m l then _ else _) = _
    rw [ha l List.mem_cons_self, if_neg Bool.false_ne_true]
    exact difL_none ls fun l' hl' => ha l' (List.mem_cons_of_mem _ hl')
/-- the meaning: the set where all places have their words -/
def caseM (M : Mach) (to wd : Nat) : List (Nat × Nat) → Mn
  | [] => .doo [(M.names.getD to "", .num wd)] none
  | p :: r => .ite (.op "same" (placeT M p.1) (.num p.2)) (caseM M to wd r) (.doo [] none)
theorem caseM_lv (M : Mach) (to wd : Nat) : ∀ ts : List (Nat × Nat), (caseM M to wd ts).lv = ts.length
  | [] => rfl
  | p :: r => by
    show max (caseM M to wd r).lv 0 + 1 = _
    rw [caseM_lv M to wd r, List.length_cons]; omega
theorem nameAt_mem {M : Mach} {k : Nat} (h : k < M.names.length) : M.names.getD k "" ∈ M.names := by
  rw [List.getD_eq_getElem?_getD, List.getElem?_eq_getElem h]
  exact List.getElem_mem h
theorem nameAt_idx {M : Mach} (hM : M.ok) {k : Nat} (h : k < M.names.length) : M.names.idxOf (M.names.getD k "") = k := by
  rw [List.getD_eq_getElem?_getD, List.getElem?_eq_getElem h]
  exact List.Nodup.idxOf_getElem hM.nm.2 k h
theorem placeT_ok {M : Mach} (hM : M.ok) {k : Nat} (h : (k : Int) < M.names.length + M.c) : TOk M (placeT M k) := by
  unfold placeT
  split
  · rename_i hk
    exact ⟨nameAt_mem hk, (by show 1 ≤ 7; omega)⟩
  · refine ⟨?_, (by show 1 + 1 ≤ 7; omega)⟩
    show (((k - M.names.length : Nat)) : Int) < 2 ^ M.b.toNat
    have := hM.c2
    omega
theorem caseM_ok {M : Mach} (hM : M.ok) {to wd : Nat} (hto : to < M.names.length) (hwd : (wd : Int) < 2 ^ M.b.toNat) : ∀ ts : List (Nat × Nat), (∀ p ∈ ts, (p.1 : Int) < M.names.length + M.c ∧ (p.2 : Int) < 2 ^ M.b.toNat) → (caseM M to wd ts).ok M
  | [], _ => ⟨by simp, fun p hp => (by rw [List.mem_singleton.mp hp]; exact ⟨hwd, (by show 1 ≤ 7; omega)⟩), fun p hp => (by cases hp), fun p hp => (by rw [List.mem_singleton.mp hp]; exact nameAt_mem hto), by simp⟩
  | p :: r, h => by
    obtain ⟨h1, h2⟩ := h p List.mem_cons_self
    have hp := placeT_ok hM h1
    refine ⟨⟨⟨by simp [opL], hp.1, h2⟩, ?_⟩, caseM_ok hM hto hwd r fun q hq => h q (List.mem_cons_of_mem _ hq), ⟨by simp, fun p hp => (by cases hp), fun p hp => (by cases hp), fun p hp => (by cases hp), by simp⟩⟩
    have : (placeT M p.1).dep ≤ 2 := by
      unfold placeT
      split
      · show 1 ≤ 2; omega
      · show 1 + 1 ≤ 2; omega
    show max (placeT M p.1).dep 1 + 1 ≤ 7
    omega
theorem getD_take {l : List Int} {n k : Nat} (h : k < n) : (l.take n).getD k 0 = l.getD k 0 := by
  rw [List.getD_eq_getElem?_getD, List.getD_eq_getElem?_getD, List.getElem?_take_of_lt h]
theorem getD_drop {l : List Int} {n k : Nat} : (l.drop n).getD k 0 = l.getD (n + k) 0 := by
  rw [List.getD_eq_getElem?_getD, List.getD_eq_getElem?_getD, List.getElem?_drop]
theorem wrt_place {M : Mach} (hM : M.ok) {l : List Int} {k : Nat} (h : (k : Int) < M.names.length + M.c) : wrt M (wldOf M l) (placeT M k) = some (l.getD k 0) := by
  unfold placeT
  split
  · rename_i hk
    show some ((l.take M.names.length).getD (M.names.idxOf (M.names.getD k "")) 0) = _
    rw [nameAt_idx hM hk, getD_take hk]
  · rename_i hk
    show (if (((k - M.names.length : Nat)) : Int) < M.c then some ((l.drop M.names.length).getD (((k - M.names.length : Nat)) : Int).toNat 0) else none) = _
    rw [if_pos (by omega), Int.toNat_natCast, getD_drop, show M.names.length + (k - M.names.length) = k by omega]
def hitB (l : List Int) (ts : List (Nat × Nat)) : Bool := ts.all fun p => decide (l.getD p.1 0 = (p.2 : Int))
theorem case_beh {M : Mach} (hM : M.ok) {to wd : Nat} (hto : to < M.names.length) {l : List Int} : ∀ ts : List (Nat × Nat), (∀ p ∈ ts, (p.1 : Int) < M.names.length + M.c) →
    behF M (wldOf M l) (caseM M to wd ts) = some (if hitB l ts then (l.take M.names.length).set to wd else l.take M.names.length, l.drop M.names.length)
  | [], _ => by
    show some (((l.take M.names.length).set (M.names.idxOf (M.names.getD to "")) wd), l.drop M.names.length) = _
    rw [nameAt_idx hM hto]; rfl
  | p :: r, h => by
    have ht := top_le hM.b1 hM.b2
    have e1 : wrt M (wldOf M l) (.op "same" (placeT M p.1) (.num p.2)) = some (reckI M "same" (l.getD p.1 0) (p.2 : Int)) := by
      simp only [wrt, wrt_place hM (h p List.mem_cons_self)]
    have e2 : reckI M "same" (l.getD p.1 0) (p.2 : Int) = if l.getD p.1 0 = (p.2 : Int) then 1 else 0 := by
      show (if decide (l.getD p.1 0 = (p.2 : Int)) = true then (1 : Int) else 0) % _ = _
      by_cases hq : l.getD p.1 0 = (p.2 : Int)
      · rw [decide_eq_true hq, if_pos rfl, if_pos hq]; exact Int.emod_eq_of_lt (by omega) (by omega)
      · rw [decide_eq_false hq, if_neg Bool.false_ne_true, if_neg hq]; exact Int.zero_emod _
    have ih := case_beh hM hto (l := l) (wd := wd) r fun q hq => h q (List.mem_cons_of_mem _ hq)
    have e3 : hitB l (p :: r) = (decide (l.getD p.1 0 = (p.2 : Int)) && hitB l r) := rfl
    show (match wrt M (wldOf M l) (.op "same" (placeT M p.1) (.num p.2)) with | some z => if z = 0 then behF M (wldOf M l) (.doo [] none) else behF M (wldOf M l) (caseM M to wd r) | none => none) = _
    rw [e1, e2, e3]
    by_cases hq : l.getD p.1 0 = (p.2 : Int)
    · rw [if_pos hq, decide_eq_true hq, Bool.true_and]
      exact ih
    · rw [if_neg hq, decide_eq_false hq, Bool.false_and, if_neg Bool.false_ne_true]
      rfl
theorem set_ne {v : List Int} {to : Nat} {z : Int} (h : to < v.length) : v.set to z = v ↔ v.getD to 0 = z := by
  constructor
  · intro e
    rw [← e, List.getD_eq_getElem?_getD, List.getElem?_set_self h]; rfl
  · intro e
    refine List.ext_getElem? fun i => ?_
    rw [List.getElem?_set]
    split
    · rename_i hi
      subst hi
      try rw [if_pos h]
      rw [List.getElem?_eq_getElem h]
      rw [List.getD_eq_getElem?_getD, List.getElem?_eq_getElem h] at e
      exact congrArg some e.symm
    · rfl
theorem case_dif {M : Mach} (hM : M.ok) {to wd : Nat} (hto : to < M.names.length) {l : List Int} (hl : M.names.length ≤ l.length) {ts : List (Nat × Nat)} (h : ∀ p ∈ ts, (p.1 : Int) < M.names.length + M.c) :
    difB M (caseM M to wd ts) l = (hitB l ts && decide (l.getD to 0 ≠ (wd : Int))) := by
  unfold difB
  rw [case_beh hM hto ts h]
  have ht : to < (l.take M.names.length).length := by rw [List.length_take]; omega
  have es := set_ne (v := l.take M.names.length) (z := (wd : Int)) ht
  rw [getD_take hto] at es
  cases hb : hitB l ts with
  | false => simp [wldOf]
  | true =>
    rw [if_pos rfl, Bool.true_and, Bool.eq_iff_iff]
    simp only [decide_eq_true_eq, ne_eq, Option.some.injEq, Prod.mk.injEq, and_true, es]
theorem hitB_at {l : List Int} {ts : List (Nat × Nat)} (h : hitB l ts = true) {p : Nat × Nat} (hp : p ∈ ts) : l.getD p.1 0 = (p.2 : Int) := by
  have := List.all_eq_true.mp h p hp
  exact of_decide_eq_true this
/-- what is drawn -/
structure CaseOk (M : Mach) (to wd : Nat) (ts : List (Nat × Nat)) (w : List Int) : Prop where
  to1 : to < M.names.length
  wd1 : (wd : Int) < 2 ^ M.b.toNat
  len : w.length = M.names.length + M.c.toNat
  ws : ∀ z ∈ w, wordOk M z
  ts1 : ∀ p ∈ ts, (p.1 : Int) < M.names.length + M.c ∧ (p.2 : Int) < 2 ^ M.b.toNat
  ts2 : ∀ p ∈ ts, w.getD p.1 0 = (p.2 : Int)
  z0 : ∀ i, i ≠ to → (∀ p ∈ ts, p.1 ≠ i) → w.getD i 0 = 0
  zto : (∀ p ∈ ts, p.1 ≠ to) → w.getD to 0 = if wd = 0 then 1 else 0
theorem case_due {M : Mach} (hM : M.ok) {to wd : Nat} {ts : List (Nat × Nat)} {w : List Int} (C : CaseOk M to wd ts w) :
    difL M (caseM M to wd ts) (allW (2 ^ M.b.toNat) (M.names.length + M.c.toNat)) = if w.getD to 0 ≠ (wd : Int) then (wldOf M w).d else .non := by
  have hc := hM.c1
  have hrow : ∀ l ∈ allW (2 ^ M.b.toNat) (M.names.length + M.c.toNat), l.length = M.names.length + M.c.toNat ∧ difB M (caseM M to wd ts) l = (hitB l ts && decide (l.getD to 0 ≠ (wd : Int))) := fun l hl => by
    have h1 := allW_row _ _ l hl
    exact ⟨h1, case_dif hM C.to1 (by omega) fun p hp => (C.ts1 p hp).1⟩
  by_cases hw : w.getD to 0 = (wd : Int)
  · rw [if_neg (by simpa using hw)]
    refine difL_none _ fun l hl => ?_
    rw [(hrow l hl).2]
    by_cases hh : hitB l ts = true
    · have hx : ∃ p ∈ ts, p.1 = to := by
        refine Classical.byContradiction fun hn => ?_
        have h1 := C.zto fun p hp e => hn ⟨p, hp, e⟩
        rw [hw] at h1
        split at h1 <;> omega
      obtain ⟨p, hp, rfl⟩ := hx
      rw [hh, hitB_at hh hp, ← C.ts2 p hp, hw]
      simp
    · rw [Bool.eq_false_iff.mpr hh]; rfl
  · rw [if_pos hw]
    have hpow : ((2 ^ M.b.toNat : Nat) : Int) = 2 ^ M.b.toNat := Int.natCast_pow 2 _
    have hin : w ∈ allW (2 ^ M.b.toNat) (M.names.length + M.c.toNat) := allW_in _ _ w C.len fun z hz => by
      have := C.ws z hz
      rw [hpow]; exact this
    refine difL_find _ (allW_pair _ _) hin ?_ fun l hl hd i => ?_
    · rw [(hrow w hin).2, decide_eq_true hw, Bool.and_true]
      exact List.all_eq_true.mpr fun p hp => decide_eq_true (C.ts2 p hp)
    · rw [(hrow l hl).2, Bool.and_eq_true] at hd
      have hnn : ∀ j, 0 ≤ l.getD j 0 := fun j => by
        by_cases hj : j < l.length
        · exact (allW_mem _ _ l hl _ (getD_mem hj)).1
        · rw [getD_out (by omega)]; omega
      by_cases hp : ∃ p ∈ ts, p.1 = i
      · obtain ⟨p, hp, rfl⟩ := hp
        rw [hitB_at hd.1 hp, C.ts2 p hp]; omega
      · have hp' : ∀ p ∈ ts, p.1 ≠ i := fun p h e => hp ⟨p, h, e⟩
        by_cases hi : i = to
        · subst hi
          rw [C.zto hp']
          have h1 := of_decide_eq_true hd.2
          have h2 := hnn i
          split
          · rename_i h0; subst h0; omega
          · omega
        · rw [C.z0 i hi hp']; exact hnn i
theorem case_beh_ne {M : Mach} (hM : M.ok) {to wd : Nat} {ts : List (Nat × Nat)} {w : List Int} (C : CaseOk M to wd ts w) (W : Wld) (hW : W.ok M) : behF M W (caseM M to wd ts) ≠ none := by
  have key : ∀ ts : List (Nat × Nat), (∀ p ∈ ts, (p.1 : Int) < M.names.length + M.c) → behF M W (caseM M to wd ts) ≠ none := by
    intro ts
    induction ts with
    | nil => intro _ h; simp [behF, caseM, wrtAll, wrt, stoF] at h
    | cons p r ih =>
      intro h e
      have e1 : ∃ z, wrt M W (placeT M p.1) = some z := by
        unfold placeT
        split
        · exact ⟨_, rfl⟩
        · refine ⟨W.mem.getD (p.1 - M.names.length) 0, ?_⟩
          have := h p List.mem_cons_self
          show (if (((p.1 - M.names.length : Nat)) : Int) < M.c then some (W.mem.getD (((p.1 - M.names.length : Nat)) : Int).toNat 0) else none) = _
          rw [if_pos (by omega), Int.toNat_natCast]
      obtain ⟨z, e1⟩ := e1
      have e2 : wrt M W (.op "same" (placeT M p.1) (.num p.2)) = some (reckI M "same" z p.2) := by simp only [wrt, e1]
      have e3 : (match wrt M W (.op "same" (placeT M p.1) (.num p.2)) with | some z => if z = 0 then behF M W (.doo [] none) else behF M W (caseM M to wd r) | none => none) = none := e
      rw [e2] at e3
      have e4 : (if reckI M "same" z p.2 = 0 then behF M W (.doo [] none) else behF M W (caseM M to wd r)) = none := e3
      split at e4
      · simp [behF, wrtAll, stoF] at e4
      · exact ih (fun q hq => h q (List.mem_cons_of_mem _ hq)) e4
  exact key ts fun p hp => (C.ts1 p hp).1
end K68


set_option Elab.async false
set_option linter.all false
set_option maxRecDepth 100000
set_option maxHeartbeats 4000000
set_option autoImplicit false
namespace K68
open PySem PySem.Spec PyProof.Rows L2 DL
local macro_rules | `(tactic| walk_at "d") => `(tactic| dsimp only [dSeq, dNext, dIfS, dRet, dRetN, dAsg, dName, dVar, dC, dOp, dUn, dChain, dB, dAnd, dOr, dNot, dAndV, dOrV, dNotV, dIf, dNil, dCons, dTup, dLst, newL, dCallB, dCall, dCallK, dDrop, dAug, dAugS, dSub, dM, dM0, dSlice, dNoPart, dPart, dLc, dYes, dFor, dIter, dRng1, dEnum, dZipM, srcD, dStar, dInK, dIxK, dLenSet, dRev,
  startD, wipeD, setAll, dNames, List.map_cons, List.map_nil, List.length_cons, List.length_nil, List.replicate, List.cons_append, List.nil_append, List.append_nil, List.getElem?_cons_zero, List.getElem?_cons_succ, List.set_cons_zero, List.set_cons_succ, List.map, Nat.zero_add, Nat.reduceAdd, Nat.reduceSub, Nat.sub_self, Nat.succ_sub_succ_eq_sub])
local macro_rules | `(tactic| walk_at "o") => `(tactic| simp only [dAdd_ii, dAdd_ss, dAdd_tt, dAdd_ll, dMinus_ii, dMul_ii, dMod_ii, dFdiv_ii, dPow_ii, dShl_ii, dNeg_i, dIadd_ii, dLt_ii, dLe_ii, dGt_ii, dGe_ii, dEq_ii, dNe_ii, dEq_ss, dNe_ss, dEq_bb, dNe_bb, dIs_n, dIsNot_n, dMax2_ii, dMin2_ii, dTuple_t, dTuple_l, dList_t, dList_l, dIx_t, dIx_l, dIx_s, dSl_t, dSl_l, dSl_s, newL_f, len_tup, len_lst])
local macro_rules | `(tactic| walk_at "w") => `(tactic| dsimp only [x_var, x_c, x_op, x_un, x_b, x_and, x_or, x_not, x_chain, x_andV, x_orV, x_notV, x_if, x_nil, x_cons, x_tup, x_lst0, x_lst1, x_callB, x_call, x_callK, x_next, x_seq, x_break, x_cont, x_drop, x_ret, x_ifS, x_asg, x_name, x_names, x_sub, x_aug, x_augS, x_for, x_lc0, x_lc1, x_yes, x_noPart, x_part, x_slice, x_iter, it_t, it_l, it_n, it_s, it_r, x_rng1, x_enum, x_rev, x_m, x_m0, x_mX, x_zip, x_star_t, x_star_l, x_lenSet, x_forgo0, x_lcgo0, x_while, x_par, x_sortK,
  br_t, br_f, isB_bl, isI_int, isN_some, slo_some, atL_lst, ix_t, ix_l, ix_n,
  dAdd_ii, dAdd_ss, dAdd_tt, dAdd_ll, dMinus_ii, dMul_ii, dMod_ii, dFdiv_ii, dPow_ii, dShl_ii, dNeg_i, dIadd_ii, dLt_ii, dLe_ii, dGt_ii, dGe_ii, ltE_ii, ltE_ss, srcD, isi_i, isi_s, isi_b, isi_n, isi_t, isi_nt, isi_l, isi2_i, isi2_s, isi2_b, isi2_n, isi2_t, isi2_nt, isi2_l, inon_n, inon_i, inon_s, inon_b, inon_t, inon_l, inon_r, dEq_ii, dNe_ii, dEq_ss, dNe_ss, dEq_bb, dNe_bb, dIs_n, dIsNot_n, dMax2_ii, dMin2_ii, dTuple_t, dTuple_l, dList_t, dList_l, dSl_t, dSl_l, dSl_s, newL_f, newL_t, app_r, int_b, int_i, strI_i, strX_i, strX_s,
  startD, wipeD, setAll, permL, List.filterMap, List.map_cons, List.map_nil, List.length_cons, List.length_nil, List.replicate, List.cons_append, List.nil_append, List.append_nil, List.getElem?_cons_zero, List.getElem?_cons_succ, List.set_cons_zero, List.set_cons_succ, List.map, Nat.zero_add, Nat.reduceAdd, Nat.reduceSub, Nat.sub_self, Nat.succ_sub_succ_eq_sub])
local macro_rules | `(tactic| walk_at "v") => `(tactic| simp only [ofString_inj, String.reduceEq, at_0, at_1, at_2, at_3, at_4, at_5, isN_some, isBB_bl, isB_bl, br_t, br_f, br_not, br_and, br_or, br_dec, ix_r, len_tup, len_lst, len_nt, ltE_key, gup_gup, gup_same, starD_one, cut1, cut2, kt1, kt2, kt3, kt4, kt5, kt6, isTy, String.reduceBEq, Bool.or_false, Bool.false_or, Bool.true_or, Bool.or_true, Bool.and_false, Bool.false_and, Bool.true_and, Bool.and_true, Bool.not_true, Bool.not_false, decide_true, decide_false, eq_self_iff_true, Bool.false_eq_true, Int.reduceAdd, Int.add_zero, if_true, if_false, true_and, and_true])
local macro_rules | `(tactic| walk_at "side") => `(tactic| first | with_reducible assumption | omega | exact mty_up | exact True.intro | (simp only [List.mem_cons, ofString_inj, String.reduceEq, true_or, or_true, List.length_map]; done) | with_reducible exact (rfl : (_ : Nat) = _) | exact (rfl : (_ : Option String) = _) | (refine small_line ?_; omega) | (walk_at "ll"; first | omega | (refine small_line ?_; omega) | fail) | (exact log_small (by omega)) | fail)
local macro_rules | `(tactic| walk_at "x") => `(tactic| fail)
local macro_rules | `(tactic| walk_at "go") => `(tactic| repeat' (first | dsimp only [x_var, x_c, x_op, x_un, x_b, x_and, x_or, x_not, x_chain, x_andV, x_orV, x_notV, x_if, x_nil, x_cons, x_tup, x_lst0, x_lst1, x_callB, x_call, x_callK, x_next, x_seq, x_break, x_cont, x_drop, x_ret, x_ifS, x_asg, x_name, x_names, x_sub, x_aug, x_augS, x_for, x_lc0, x_lc1, x_yes, x_noPart, x_part, x_slice, x_iter, it_t, it_l, it_n, it_s, it_r, x_rng1, x_enum, x_rev, x_m, x_m0, x_mX, x_zip, x_star_t, x_star_l, x_lenSet, x_forgo0, x_lcgo0, x_while, x_par, x_sortK, br_t, br_f, isB_bl, isI_int, isN_some, slo_some, atL_lst, ix_t, ix_l, ix_n, dAdd_ii, dAdd_ss, dAdd_tt, dAdd_ll, dMinus_ii, dMul_ii, dMod_ii, dFdiv_ii, dPow_ii, dShl_ii, dNeg_i, dIadd_ii, dLt_ii, dLe_ii, dGt_ii, dGe_ii, ltE_ii, ltE_ss, srcD, isi_i, isi_s, isi_b, isi_n, isi_t, isi_nt, isi_l, isi2_i, isi2_s, isi2_b, isi2_n, isi2_t, isi2_nt, isi2_l, inon_n, inon_i, inon_s, inon_b, inon_t, inon_l, inon_r, dEq_ii, dNe_ii, dEq_ss, dNe_ss, dEq_bb, dNe_bb, dIs_n, dIsNot_n, dMax2_ii, dMin2_ii, dTuple_t, dTuple_l, dList_t, dList_l, dSl_t, dSl_l, dSl_s, newL_f, newL_t, app_r, int_b, int_i, strI_i, strX_i, strX_s, startD, wipeD, setAll, permL, List.filterMap, List.map_cons, List.map_nil, List.length_cons, List.length_nil, List.replicate, List.cons_append, List.nil_append, List.append_nil, List.getElem?_cons_zero, List.getElem?_cons_succ, List.set_cons_zero, List.set_cons_succ, List.map, Nat.zero_add, Nat.reduceAdd, Nat.reduceSub, Nat.sub_self, Nat.succ_sub_succ_eq_sub] | simp only [ofString_inj, String.reduceEq, at_0, at_1, at_2, at_3, at_4, at_5, isN_some, isBB_bl, isB_bl, br_t, br_f, br_not, br_and, br_or, br_dec, ix_r, len_tup, len_lst, len_nt, ltE_key, gup_gup, gup_same, starD_one, cut1, cut2, kt1, kt2, kt3, kt4, kt5, kt6, isTy, String.reduceBEq, Bool.or_false, Bool.false_or, Bool.true_or, Bool.or_true, Bool.and_false, Bool.false_and, Bool.true_and, Bool.and_true, Bool.not_true, Bool.not_false, decide_true, decide_false, eq_self_iff_true, Bool.false_eq_true, Int.reduceAdd, Int.add_zero, if_true, if_false, true_and, and_true] | walk_at "x" | with_reducible refine kont_go ?_ | with_reducible refine rt_sub (by assumption) ?_ | with_reducible refine rt_lst (by assumption) ?_ | with_reducible refine rt_drop (by assumption) ?_ | with_reducible refine rt_keep (by assumption) (by assumption) ?_ | with_reducible refine rt_same ?_ | (refine fun (p : Addr) (_ : _ = none) => ?_) | refine join_gor gup_same rfl (by walk_at "side") ?_ | with_reducible refine lc_cons ?_ | with_reducible refine for_cons ?_ | refine join_go rfl (by walk_at "side") ?_ | refine And.intro (by first | with_reducible assumption | omega | exact mty_up | exact True.intro | (simp only [List.mem_cons, ofString_inj, String.reduceEq, true_or, or_true, List.length_map]; done) | with_reducible exact (rfl : (_ : Nat) = _) | exact (rfl : (_ : Option String) = _) | (refine small_line ?_; omega) | (walk_at "ll"; first | omega | (refine small_line ?_; omega) | fail) | (exact log_small (by omega)) | fail) ?_ | fail))
local macro_rules | `(tactic| walk_at "ll") => `(tactic| simp only [List.length_map, List.length_append, List.length_cons, List.length_nil, List.map_cons, List.map_nil, List.sum_cons, List.sum_nil, len_app, rng_length, ll_0, ll_1, ll_2, ll_3, ll_4, ll_5, ll_6, ll_7, ll_8, ll_9, ll_10, ll_11, ll_12, ll_13, ll_14, ll_15, ll_16, ll_17, ll_18, ll_19, ll_20, ll_21, ll_22, ll_23, ll_24, ll_25, ll_26, ll_27, ll_28, ll_29, ll_30, ll_31, ll_32, ll_33, ll_34])
/-! ### a case drawn -/
theorem dSl_r {mk : Bool} {p : Addr} {ds : List D} {lo hi : Option Int} {G : Gp} {R : DK} (e : G p = some (.lst ds)) (q : newL mk (cutL ds lo hi) G R) : dSl mk (.ref p) lo hi G R := by
  unfold dSl
  simp only [lstOf, e]
  exact q
theorem rep_ints (n : Nat) : (List.replicate n [D.int 0]).flatten = (List.replicate n (0 : Int)).map D.int := by
  induction n with
  | zero => rfl
  | succ n ih => rw [List.replicate_succ, List.flatten_cons, ih]; rfl
theorem popAt_go {p : Addr} {k : Nat} {ds : List D} {d : D} {G : Gp} {R : DK} (e : G p = some (.lst ds)) (h : ds[k]? = some d) (hk : k < 2 ^ 62) (q : R d (gup G p (.lst (ds.eraseIdx k)))) : dPopAt (.ref p) [.int (k : Nat)] G R := by
  have hl := (List.getElem?_eq_some_iff.mp h).1
  show atL (G p) fun ds => 0 ≤ ((k : Nat) : Int) ∧ ((k : Nat) : Int) < 2 ^ 62 ∧ isN ds[((k : Nat) : Int).toNat]? fun d => R d (gup G p (.lst (ds.eraseIdx ((k : Nat) : Int).toNat)))
  rw [e, atL_lst, Int.toNat_natCast, h, isN_some]
  exact ⟨by omega, by have := hk; omega, q⟩
theorem erase_map {α β : Type} (f : α → β) : ∀ (l : List α) (k : Nat), (l.map f).eraseIdx k = (l.eraseIdx k).map f
  | [], _ => rfl
  | a :: l, 0 => rfl
  | a :: l, k + 1 => by simp [erase_map f l k]
theorem erase_perm {α : Type} {l : List α} {k : Nat} (h : k < l.length) : ([l[k]] ++ l.eraseIdx k).Perm l := by
  rw [List.eraseIdx_eq_take_drop_succ]
  have e : l = l.take k ++ l[k] :: l.drop (k + 1) := by rw [← List.drop_eq_getElem_cons h, List.take_append_drop]
  refine List.Perm.trans ?_ (List.Perm.of_eq e.symm)
  exact (List.perm_middle (a := l[k]) (l₁ := l.take k) (l₂ := l.drop (k + 1))).symm
theorem getD_set_ne {l : List Int} {i j : Nat} {z : Int} (h : i ≠ j) : (l.set i z).getD j 0 = l.getD j 0 := by
  rw [List.getD_eq_getElem?_getD, List.getD_eq_getElem?_getD, List.getElem?_set_ne h]
theorem getD_set_eq {l : List Int} {i : Nat} {z : Int} (h : i < l.length) : (l.set i z).getD i 0 = z := by
  rw [List.getD_eq_getElem?_getD, List.getElem?_set_self h]; rfl
theorem CaseOk.put {M : Mach} {to wd : Nat} {ts : List (Nat × Nat)} {w : List Int} (C : CaseOk M to wd ts w) {k z : Nat} (hk : (k : Int) < M.names.length + M.c) (hz : (z : Int) < 2 ^ M.b.toNat) (hn : ∀ p ∈ ts, p.1 ≠ k) : CaseOk M to wd ((k, z) :: ts) (w.set k z) := by
  have hkl : k < w.length := by rw [C.len]; omega
  refine ⟨C.to1, C.wd1, by rw [List.length_set]; exact C.len, set_ok C.ws ⟨by omega, hz⟩, fun p hp => ?_, fun p hp => ?_, fun i hi h => ?_, fun h => ?_⟩
  · rcases List.mem_cons.mp hp with rfl | hp
    · exact ⟨hk, hz⟩
    · exact C.ts1 p hp
  · rcases List.mem_cons.mp hp with rfl | hp
    · exact getD_set_eq hkl
    · rw [getD_set_ne (hn p hp).symm]; exact C.ts2 p hp
  · rw [getD_set_ne (h (k, z) List.mem_cons_self)]
    exact C.z0 i hi fun p hp => h p (List.mem_cons_of_mem _ hp)
  · rw [getD_set_ne (h (k, z) List.mem_cons_self)]
    exact C.zto fun p hp => h p (List.mem_cons_of_mem _ hp)
theorem CaseOk.begin {M : Mach} {to wd : Nat} (h1 : to < M.names.length) (h2 : (wd : Int) < 2 ^ M.b.toNat) (h3 : (2 : Int) ≤ 2 ^ M.b.toNat) : CaseOk M to wd [] ((List.replicate (M.names.length + M.c.toNat) (0 : Int)).set to (if wd = 0 then 1 else 0)) := by
  have hl : to < (List.replicate (M.names.length + M.c.toNat) (0 : Int)).length := by rw [List.length_replicate]; omega
  refine ⟨h1, h2, by rw [List.length_set, List.length_replicate], set_ok (fun z hz => ?_) ?_, fun p hp => (by cases hp), fun p hp => (by cases hp), fun i hi _ => ?_, fun _ => getD_set_eq hl⟩
  · rw [List.eq_of_mem_replicate hz]; exact ⟨by omega, by omega⟩
  · split <;> exact ⟨by omega, by omega⟩
  · rw [getD_set_ne (Ne.symm hi)]
    by_cases h : i < M.names.length + M.c.toNat
    · rw [List.getD_eq_getElem?_getD, List.getElem?_replicate_of_lt h]; rfl
    · rw [getD_out (by rw [List.length_replicate]; omega)]
def dueC (M : Mach) (to wd : Nat) (w : List Int) : D := if w.getD to 0 ≠ (wd : Int) then (wldOf M w).d else .non
def natD (n : Nat) : D := .int (n : Nat)
def sp__law_case : DSp := fun ds G R => ∃ (s : Addr) (M : Mach) (n : Nat) (o : GO), ds = [M.d, .ref s] ∧ M.ok ∧ M.b * (M.names.length + M.c) ≤ 12 ∧ G s = some o ∧ BagO n o ∧ n ≤ 800000 ∧ ∀ (to wd : Nat) (ts : List (Nat × Nat)) (w : List Int) o', CaseOk M to wd ts w → ts.length ≤ 2 → BagO (n + 10) o' → R (.tup [(caseM M to wd ts).d, dueC M to wd w]) (gup G s o')
local macro_rules | `(tactic| walk_at "x") => `(tactic| first
  | refine go_draw (by first | exact gup_same | assumption | fail) (by assumption) (by omega) (by walk_at "side") (by walk_at "side") fun _ _ _ _ => ?_
  | fail)
theorem ok__law_case {P : Program} {w : World} {K : PySem.W.Frag} {mg : Str → Option Value} {base : Heap} {a : Ad} (T : Tx w K mg a) : FnD P w K mg base 2 a.f__law_case a.fd__law_case ["machine", "bag"] sp__law_case := by
  refine fun_okD T.F__law_case sc__law_case (fun ds G R h => ?_) (fun cdv A outer s H hr => ⟨_, (qss_cons (qs_set (i := 2) sc__law_case.nd rfl (.inl rfl) (qe_callB cd_len rfl T.n_len (by decide +kernel) (qa_cons (qe_ix xd_ix (qv 0) qe_int (fun _ _ => rfl)) qa_nil)))
      (qss_cons (qs_set (i := 3) sc__law_case.nd rfl (.inl rfl) (qe_op (od_add false) (qv 2) (qe_ix xd_ix (qv 0) qe_int (fun _ _ => rfl))))
      (qss_cons (qs_set (i := 4) sc__law_case.nd rfl (.inr rfl) (qe_listRg true rfl rfl T.n_list rfl T.n_range (qv 3)))
      (qss_cons (qs_setLc false (i := 5) rfl sc__law_case.nd rfl rfl (sw_true rfl rfl rfl (by decide +kernel)) (qi_range1 rfl T.n_range (qa_cons (qe_op (od_add false) qe_int (qe_call (ok__law_draw T) (hr.mono (by omega)) rfl T.g__law_draw T.F__law_draw.kp T.b__law_draw (qa_cons (qv 1) (qa_cons (qe_callB (cd_min2 rfl) rfl T.n_min (by decide +kernel) (qa_cons qe_int (qa_cons (qv 3) qa_nil))) qa_nil)))) qa_nil)) (blkOk_by (own := [("k", 13)]) (N := N__law_case) (sc := defScope s__law_case) (by decide +kernel)) (fun _ _ _ _ _ => (pg_name (i := 13) sc__law_case.nd rfl (.inl rfl))) (tg_name (i := 13) (by decide)) (fun _ _ _ _ _ => qts_nil) (fun _ _ _ _ _ => (qe_m PySem.F.plainAttrs_list PySem.F.slot_list_pop PySem.F.type_list_pop md_popAt (qv 4) (qa_cons (qe_call (ok__law_draw T) (hr.mono (by omega)) rfl T.g__law_draw T.F__law_draw.kp T.b__law_draw (qa_cons (qv 1) (qa_cons (qe_callB cd_len rfl T.n_len (by decide +kernel) (qa_cons (qv 4) qa_nil)) qa_nil))) qa_nil))))
      (qss_cons (qs_set (i := 6) sc__law_case.nd rfl (.inl rfl) (qe_call (ok__law_draw T) (hr.mono (by omega)) rfl T.g__law_draw T.F__law_draw.kp T.b__law_draw (qa_cons (qv 1) (qa_cons (qv 2) qa_nil))))
      (qss_cons (qs_set (i := 7) sc__law_case.nd rfl (.inl rfl) (qe_call (ok__law_draw T) (hr.mono (by omega)) rfl T.g__law_draw T.F__law_draw.kp T.b__law_draw (qa_cons (qv 1) (qa_cons (qe_op od_shl qe_int (qe_ix xd_ix (qv 0) qe_int (fun _ _ => rfl))) qa_nil))))
      (qss_cons (qs_set (i := 8) sc__law_case.nd rfl (.inl rfl) (qe_tup (qa_cons qe_str (qa_cons (qe_tup (qa_cons (qe_tup (qa_cons (qe_ix xd_ix (qe_ix xd_ix (qv 0) qe_int (fun _ _ => rfl)) (qv 6) (fun _ _ => rfl)) (qa_cons (qe_tup (qa_cons qe_str (qa_cons (qv 7) qa_nil))) qa_nil))) qa_nil)) (qa_cons (qe_tup qa_nil) qa_nil)))))
      (qss_cons (qs_set (i := 9) sc__law_case.nd rfl (.inl rfl) (qe_op (od_rep true) (qe_lst true (qa_cons qe_int qa_nil)) (qv 3)))
      (qss_cons (qs_asg (qe_callTy cd_int rfl T.n_int (by decide +kernel) (qa_cons (qe_cmp (od_eq hr.units) (qv 7) qe_int (nomark _)) qa_nil)) (qg_sub (qv 9) (qv 6) sd_set))
      (qss_cons (qs_for PassesOwn.never rfl (qi_seq (qv 5)) (qg_of (pg_name (i := 10) sc__law_case.nd rfl (.inl rfl)) (tg_name (i := 10) (ws := [10]) (by decide)))
      (qss_cons (qs_asg (qe_call (ok__law_draw T) (hr.mono (by omega)) rfl T.g__law_draw T.F__law_draw.kp T.b__law_draw (qa_cons (qv 1) (qa_cons (qe_op od_shl qe_int (qe_ix xd_ix (qv 0) qe_int (fun _ _ => rfl))) qa_nil))) (qg_sub (qv 9) (qv 10) sd_set))
      (qss_cons (qs_set (i := 11) sc__law_case.nd rfl (.inl rfl) (qe_tup (qa_cons qe_str (qa_cons (qe_call (ok__law_term T) (hr.mono (by omega)) rfl T.g__law_term T.F__law_term.kp T.b__law_term (qa_cons (qv 0) (qa_cons (qv 10) qa_nil))) (qa_cons (qe_tup (qa_cons qe_str (qa_cons (qe_ix xd_ix (qv 9) (qv 10) (fun _ _ => rfl)) qa_nil))) qa_nil)))))
      (qss_one (qs_set (i := 8) sc__law_case.nd rfl (.inl rfl) (qe_tup (qa_cons qe_str (qa_cons (qv 11) (qa_cons (qv 8) (qa_cons (qe_tup (qa_cons qe_str (qa_cons (qe_tup qa_nil) (qa_cons (qe_tup qa_nil) qa_nil)))) qa_nil))))))))))
      (qss_cons (qs_set (i := 12) sc__law_case.nd rfl (.inl rfl) (qe_tup (qa_cons (qe_callTy cd_tuple rfl T.n_tuple (by decide +kernel) (qa_cons (qe_slice false (qv 9) qo_none (qo_some (qv 2))) qa_nil)) (qa_cons (qe_op od_repT (qe_tup (qa_cons qe_int qa_nil)) (qe_ix xd_ix (qv 0) qe_int (fun _ _ => rfl))) (qa_cons (qe_callTy cd_tuple rfl T.n_tuple (by decide +kernel) (qa_cons (qe_slice false (qv 9) (qo_some (qv 2)) qo_none) qa_nil)) qa_nil)))))
      (qss_one (qs_ret (qe_tup (qa_cons (qv 8) (qa_cons (qe_ifExp (qt_cmp (od_ne hr.units) (qe_ix xd_ix (qv 9) (qv 6) (fun _ _ => rfl)) (qv 7) (nomark _)) (qv 12) qe_non) qa_nil)))))))))))))))), fun ds G R h => ?_⟩)
  · obtain ⟨s, M, n, o, rfl, _⟩ := h; rfl
  · obtain ⟨s, M, n, o, rfl, hM, hbm, e, ho, hn, h⟩ := h
    have hn1 := hM.n1; have hn2 := hM.n2; have hc1 := hM.c1; have hb1 := hM.b1; have hb2 := hM.b2; have hh1 := hM.h1; have hh2 := hM.h2; have htop := top_le hb1 hb2
    have hsh : CShl 1 M.b := shl_ok (by omega) (by omega)
    obtain ⟨ev, hev⟩ : ∃ ev : Nat, ev = M.names.length + M.c.toNat := ⟨_, rfl⟩
    have heI : (M.names.length : Int) + M.c = (ev : Int) := by omega
    have hev12 : ev ≤ 12 := by
      have h1 : (ev : Int) ≤ M.b * ((M.names.length : Int) + M.c) := by
        rw [heI]
        have := Int.mul_le_mul_of_nonneg_right hb1 (show (0 : Int) ≤ (ev : Int) by omega)
        omega
      omega
    refine seq_cut (fun σ' G' => σ' = [some M.d, some (.ref s), some (natD M.names.length), none, none, none, none, none, none, none, none, none, none, none] ∧ G' = G) ?_ (fun N1 hN1 => ?_)
    rotate_left
    · unfold Mach.d
      walk_at "go"
      exact hN1 _ _ ⟨rfl, rfl⟩
    rintro σ G1 ⟨rfl, rfl⟩
    refine seq_cut (fun σ' G' => σ' = [some M.d, some (.ref s), some (natD M.names.length), some (natD ev), none, none, none, none, none, none, none, none, none, none] ∧ G' = G1) ?_ (fun N1 hN1 => ?_)
    rotate_left
    · unfold Mach.d natD
      walk_at "go"
      rw [heI]
      exact hN1 _ _ ⟨rfl, rfl⟩
    rintro σ G2 ⟨rfl, rfl⟩
    have hrg : rng 0 ev = (List.range ev).map natD := by unfold rng natD; exact List.map_congr_left fun i _ => by rw [Int.zero_add]
    refine seq_cut (fun σ' G' => ∃ p, σ' = [some M.d, some (.ref s), some (natD M.names.length), some (natD ev), some (.ref p), none, none, none, none, none, none, none, none, none] ∧ s ≠ p ∧ G2 p = none ∧ Ext s G2 G' ∧ G' s = some o ∧ G' p = some (.lst ((List.range ev).map natD))) ?_ (fun N1 hN1 => ?_)
    rotate_left
    · unfold natD
      walk_at "go"
      rename_i p np
      have hsp : s ≠ p := fr_ne e np
      rw [Int.toNat_natCast, hrg]
      exact hN1 _ _ ⟨p, rfl, hsp, np, (Ext.refl s G2).new np hsp, by rw [gup_ne hsp]; exact e, gup_same⟩
    rintro σ G3 ⟨p, rfl, hsp, npG, hx3, e3, ep3⟩
    refine seq_cut (fun σ' G' => ∃ (nums : List Nat) (o1 : GO), σ' = [some M.d, some (.ref s), some (natD M.names.length), some (natD ev), some (.ref p), some (.lst (nums.map natD)), none, none, none, none, none, none, none, none] ∧ nums.Nodup ∧ (∀ k ∈ nums, k < ev) ∧ nums.length ≤ 2 ∧ Ext s G2 G' ∧ G' s = some o1 ∧ BagO (n + 3) o1) ?_ (fun N1 hN1 => ?_)
    rotate_left
    · unfold natD
      walk_at "go"
      rename_i r o1 hr ho1
      have hr1 : 1 + r ≤ 2 ∧ 1 + r ≤ ev := by split at hr <;> omega
      rw [show (1 + (r : Int)).toNat = 1 + r by omega]
      refine lc_go (fun rest acc G4 => ∃ (nums left : List Nat) (o4 : GO), acc = nums.map natD ∧ (nums ++ left).Perm (List.range ev) ∧ nums.length + rest.length = 1 + r ∧ Ext s G2 G4 ∧ G4 s = some o4 ∧ G4 p = some (.lst (left.map natD)) ∧ BagO (n + 1 + nums.length) o4) ?turn2 ?fin2 _ _ _ ⟨[], List.range ev, o1, rfl, List.Perm.refl _, by rw [rng_length]; simp, hx3.self, gup_same, by rw [gup_ne hsp.symm]; exact ep3, ho1.mono (by omega)⟩
      case fin2 =>
        rintro acc G4 ⟨nums, left, o4, rfl, hp, hl, hx4, e4, ep4, ho4⟩
        simp only [List.length_nil] at hl
        have hnd := hp.nodup_iff.mpr List.nodup_range
        exact ⟨True.intro, hN1 _ _ ⟨nums, o4, rfl, (List.nodup_append.mp hnd).1, fun k hk => List.mem_range.mp (hp.mem_iff.mp (List.mem_append_left _ hk)), by omega, hx4, e4, ho4.mono (by omega)⟩⟩
      case turn2 =>
        rintro y rest acc G4 ⟨nums, left, o4, rfl, hp, hl, hx4, e4, ep4, ho4⟩
        rw [List.length_cons] at hl
        have hnl : nums.length + left.length = ev := by have := hp.length_eq; rwa [List.length_append, List.length_range] at this
        refine ⟨True.intro, fun N2 hN2 => ?_⟩
        walk_at "go"
        refine ⟨mty_at ep4, ?_⟩
        rw [len_ref ep4, List.length_map]
        refine go_draw e4 ho4 (by omega) (by omega) (by omega) fun r o5 hr ho5 => ?_
        have hrl : r < left.length := by omega
        refine popAt_go (d := natD left[r]) (by rw [gup_ne hsp.symm]; exact ep4) (by rw [List.getElem?_map, List.getElem?_eq_getElem hrl]; rfl) (by omega) ?_
        refine hN2 _ _ ⟨nums ++ [left[r]], left.eraseIdx r, o5, by rw [List.map_append]; rfl, ?_, by rw [List.length_append, List.length_singleton]; omega, hx4.self.put npG, by rw [gup_ne hsp]; exact gup_same, by rw [gup_same, erase_map], ho5.mono (by rw [List.length_append, List.length_singleton]; omega)⟩
        rw [List.append_assoc]
        exact (List.Perm.append_left nums (erase_perm hrl)).trans hp
    rintro σ G4 ⟨nums, o4, rfl, hnd, hlt, hn2', hx4, e4, ho4⟩
    refine seq_cut (fun σ' G' => ∃ (to : Nat) (o1 : GO), σ' = [some M.d, some (.ref s), some (natD M.names.length), some (natD ev), some (.ref p), some (.lst (nums.map natD)), some (natD to), none, none, none, none, none, none, none] ∧ to < M.names.length ∧ Ext s G2 G' ∧ G' s = some o1 ∧ BagO (n + 4) o1) ?_ (fun N1 hN1 => ?_)
    rotate_left
    · unfold natD
      walk_at "go"
      rename_i r o1 hr ho1
      exact hN1 _ _ ⟨r, o1, rfl, by omega, hx4.self, gup_same, ho1⟩
    rintro σ G5 ⟨to, o5, rfl, hto, hx5, e5, ho5⟩
    refine seq_cut (fun σ' G' => ∃ (wd : Nat) (o1 : GO), σ' = [some M.d, some (.ref s), some (natD M.names.length), some (natD ev), some (.ref p), some (.lst (nums.map natD)), some (natD to), some (natD wd), none, none, none, none, none, none] ∧ (wd : Int) < 2 ^ M.b.toNat ∧ Ext s G2 G' ∧ G' s = some o1 ∧ BagO (n + 5) o1) ?_ (fun N1 hN1 => ?_)
    rotate_left
    · unfold Mach.d
      walk_at "go"
      rename_i r o1 hr ho1
      rw [Int.one_mul] at hr
      exact hN1 _ _ ⟨r, o1, rfl, hr, hx5.self, gup_same, ho1⟩
    rintro σ G6 ⟨wd, o6, rfl, hwd, hx6, e6, ho6⟩
    refine seq_cut (fun σ' G' => σ' = [some M.d, some (.ref s), some (natD M.names.length), some (natD ev), some (.ref p), some (.lst (nums.map natD)), some (natD to), some (natD wd), some (caseM M to wd []).d, none, none, none, none, none] ∧ G' = G6) ?_ (fun N1 hN1 => ?_)
    rotate_left
    · rw [show (caseM M to wd []).d = .tup [.str "do", .tup [.tup [.str M.names[to], .tup [.str "num", natD wd]]], .tup []] by
        unfold caseM
        rw [List.getD_eq_getElem?_getD, List.getElem?_eq_getElem hto]; rfl] at hN1
      unfold Mach.d natD
      unfold Mach.d natD at hN1
      walk_at "go"
      rw [atI_nat (j := to) (v := .str M.names[to]) (by rw [List.getElem?_map, List.getElem?_eq_getElem hto]; rfl)]
      walk_at "go"
      exact hN1 _ _ ⟨rfl, rfl⟩
    rintro σ G7 ⟨rfl, rfl⟩
    refine seq_cut (fun σ' G' => ∃ q, σ' = [some M.d, some (.ref s), some (natD M.names.length), some (natD ev), some (.ref p), some (.lst (nums.map natD)), some (natD to), some (natD wd), some (caseM M to wd []).d, some (.ref q), none, none, none, none] ∧ s ≠ q ∧ G2 q = none ∧ Ext s G2 G' ∧ G' s = some o6 ∧ G' q = some (.lst ((List.replicate ev (0 : Int)).map D.int))) ?_ (fun N1 hN1 => ?_)
    rotate_left
    · unfold natD
      unfold natD at hN1
      walk_at "go"
      rename_i p1 np1
      have hsp1 : s ≠ p1 := fr_ne e6 np1
      refine rep_go gup_same (by omega) (by omega) (by rw [sizeLine_eq, Int.toNat_natCast, List.length_singleton]; omega) ?_
      rw [Int.toNat_natCast, rep_ints]
      intro q nq
      have e61 : gup G7 p1 (.lst [D.int 0]) s = some o6 := by rw [gup_ne hsp1]; exact e6
      have hsq : s ≠ q := fr_ne e61 nq
      have hx61 : Ext s G2 (gup G7 p1 (.lst [D.int 0])) := hx6.new np1 hsp1
      exact hN1 _ _ ⟨q, rfl, hsq, hx61.nn hsq.symm nq, hx61.new nq hsq, by rw [gup_ne hsq]; exact e61, gup_same⟩
    rintro σ G8 ⟨q, rfl, hsq, nqG, hx8, e8, eq8⟩
    refine seq_cut (fun σ' G' => ∃ w, σ' = [some M.d, some (.ref s), some (natD M.names.length), some (natD ev), some (.ref p), some (.lst (nums.map natD)), some (natD to), some (natD wd), some (caseM M to wd []).d, some (.ref q), none, none, none, none] ∧ CaseOk M to wd [] w ∧ Ext s G2 G' ∧ G' s = some o6 ∧ G' q = some (.lst (w.map D.int))) ?_ (fun N1 hN1 => ?_)
    rotate_left
    · have C := CaseOk.begin (M := M) hto hwd htop.1
      rw [← hev] at C
      unfold natD
      unfold natD at hN1
      walk_at "go"
      refine setN_go eq8 (by rw [List.length_map, List.length_replicate]; omega) ?_
      refine hN1 _ _ ⟨_, rfl, C, hx8.put nqG, by rw [gup_ne hsq]; exact e8, ?_⟩
      rw [gup_same, List.map_set]
      congr 3
      by_cases h0 : wd = 0
      · subst h0; rfl
      · rw [if_neg h0, if_neg (by simpa using h0)]
    rintro σ G9 ⟨w0, rfl, C0, hx9, e9, eq9⟩
    refine seq_cut (fun σ' G' => ∃ (ts : List (Nat × Nat)) (w : List Int) (o1 : GO) (x10 x11 : Option D), σ' = [some M.d, some (.ref s), some (natD M.names.length), some (natD ev), some (.ref p), some (.lst (nums.map natD)), some (natD to), some (natD wd), some (caseM M to wd ts).d, some (.ref q), x10, x11, none, none] ∧ ts.length ≤ 2 ∧ CaseOk M to wd ts w ∧ Ext s G2 G' ∧ G' s = some o1 ∧ BagO (n + 7) o1 ∧ G' q = some (.lst (w.map D.int))) ?_ (fun N1 hN1 => ?_)
    rotate_left
    · walk_at "go"
      refine for_lst natD nums (fun k σ' G' => ∃ (ts : List (Nat × Nat)) (w : List Int) (o1 : GO) (x10 x11 : Option D), σ' = [some M.d, some (.ref s), some (natD M.names.length), some (natD ev), some (.ref p), some (.lst (nums.map natD)), some (natD to), some (natD wd), some (caseM M to wd ts).d, some (.ref q), x10, x11, none, none] ∧ ts.length = k ∧ (∀ t ∈ ts, t.1 ∈ nums.take k) ∧ CaseOk M to wd ts w ∧ Ext s G2 G' ∧ G' s = some o1 ∧ BagO (n + 5 + k) o1 ∧ G' q = some (.lst (w.map D.int))) ?turn3 ?fin3 _ _ ⟨[], w0, o6, none, none, rfl, rfl, fun _ h => (by cases h), C0, hx9, e9, ho6, eq9⟩
      case fin3 =>
        rintro σ' G' ⟨ts, w, o1, x10, x11, rfl, hl, _, C, hx, e1, ho1, eq1⟩
        exact hN1 _ _ ⟨ts, w, o1, x10, x11, rfl, by omega, C, hx, e1, ho1.mono (by omega), eq1⟩
      case turn3 =>
        rintro k x σ' G' hkx ⟨ts, w, o1, x10, x11, rfl, hl, hts, C, hx, e1, ho1, eq1⟩ N2 hN2
        have hkl := (List.getElem?_eq_some_iff.mp hkx).1
        have hxm : x ∈ nums := List.mem_of_getElem? hkx
        have hxev := hlt x hxm
        have hnot : ∀ t ∈ ts, t.1 ≠ x := fun t ht z => by
          have h1 := hts t ht
          rw [z] at h1
          obtain ⟨j, hj, hjx⟩ := List.mem_iff_getElem.mp h1
          rw [List.length_take] at hj
          rw [List.getElem_take] at hjx
          have h2 := (List.getElem?_eq_some_iff.mp hkx).2
          have h3 := List.Nodup.idxOf_getElem hnd j (by omega)
          have h4 := List.Nodup.idxOf_getElem hnd k hkl
          rw [hjx, ← h2, h4] at h3
          omega
        have hwl : w.length = ev := by rw [C.len, hev]
        refine seq_cut (fun σ' G' => ∃ (z : Nat) (o1 : GO), σ' = [some M.d, some (.ref s), some (natD M.names.length), some (natD ev), some (.ref p), some (.lst (nums.map natD)), some (natD to), some (natD wd), some (caseM M to wd ts).d, some (.ref q), some (natD x), x11, none, none] ∧ (z : Int) < 2 ^ M.b.toNat ∧ Ext s G2 G' ∧ G' s = some o1 ∧ BagO (n + 6 + k) o1 ∧ G' q = some (.lst ((w.set x (z : Int)).map D.int))) ?_ (fun N1 hN1 => ?_)
        rotate_left
        · unfold Mach.d
          unfold Mach.d at hN1
          walk_at "go"
          rename_i r o2 hr ho2
          rw [Int.one_mul] at hr
          refine setN_go (k := x) (by rw [gup_ne hsq.symm]; exact eq1) (by rw [List.length_map]; omega) ?_
          exact hN1 _ _ ⟨r, o2, rfl, hr, hx.self.put nqG, by rw [gup_ne hsq]; exact gup_same, ho2.mono (by omega), by rw [gup_same, List.map_set]⟩
        rintro σ' G'' ⟨z, o2, rfl, hz, hx', e2, ho2, eq2⟩
        have C' := C.put (k := x) (z := z) (by omega) hz hnot
        have hwz : atI ((w.set x (z : Int)).map D.int) (x : Int) = some (.int z) := by
          rw [atI_int (by rw [List.length_set]; omega), getD_set_eq (by omega)]
        refine seq_cut (fun σ' G' => σ' = [some M.d, some (.ref s), some (natD M.names.length), some (natD ev), some (.ref p), some (.lst (nums.map natD)), some (natD to), some (natD wd), some (caseM M to wd ts).d, some (.ref q), some (natD x), some (Tm.op "same" (placeT M x) (.num z)).d, none, none] ∧ G' = G'') ?_ (fun N1 hN1 => ?_)
        rotate_left
        · walk_at "go"
          refine go_term hM (by omega) ?_
          walk_at "go"
          refine ixN_go (k := x) eq2 (v := .int z) (by rw [List.getElem?_map, List.getElem?_set_self (by omega)]; rfl) ?_
          walk_at "go"
          exact hN1 _ _ ⟨rfl, rfl⟩
        rintro σ' G3' ⟨rfl, rfl⟩
        walk_at "go"
        refine hN2 _ _ ⟨(x, z) :: ts, _, o2, _, _, rfl, by rw [List.length_cons, hl], fun t ht => ?_, C', hx', e2, ho2.mono (by omega), eq2⟩
        rcases List.mem_cons.mp ht with rfl | ht
        · rw [List.take_succ, hkx]; simp
        · have := hts t ht
          rw [List.take_succ]; exact List.mem_append_left _ this
    rintro σ G10 ⟨ts, w, o7, x10, x11, rfl, hl2, C, hx10, e10, ho7, eq10⟩
    have hwl : w.length = ev := by rw [C.len, hev]
    refine seq_cut (fun σ' G' => σ' = [some M.d, some (.ref s), some (natD M.names.length), some (natD ev), some (.ref p), some (.lst (nums.map natD)), some (natD to), some (natD wd), some (caseM M to wd ts).d, some (.ref q), x10, x11, some (wldOf M w).d, none] ∧ G' = G10) ?_ (fun N1 hN1 => ?_)
    rotate_left
    · unfold Mach.d natD
      unfold Mach.d natD at hN1
      walk_at "go"
      refine dSl_r eq10 ?_
      rw [cut_take]
      walk_at "go"
      refine (show ([D.int 0] ≠ [] ∧ -1000 ≤ M.h ∧ M.h ≤ 1000 ∧ [D.int 0].length ≤ 1000 ∧ _ : Prop) from ⟨by simp, by omega, by omega, by simp, ?_⟩)
      rw [rep_ints]
      refine dSl_r eq10 ?_
      rw [cut_drop]
      walk_at "go"
      rw [← List.map_take, ← List.map_drop]
      exact hN1 _ _ ⟨rfl, rfl⟩
    rintro σ G11 ⟨rfl, rfl⟩
    have hr := h to wd ts w o7 C hl2 (ho7.mono (by omega))
    unfold dueC at hr
    unfold natD
    walk_at "go"
    rw [eq10, atL_lst, atI_int (by have := C.to1; omega), isN_some]
    walk_at "go"
    by_cases hq : w.getD to 0 = (wd : Int)
    · rw [if_neg (by simpa using hq)] at hr
      rw [if_pos hq]
      exact ⟨small_line (by decide), rt_ext hx10 e10 hr⟩
    · rw [if_pos hq] at hr
      rw [if_neg hq]
      exact ⟨small_line (by decide), rt_ext hx10 e10 hr⟩
theorem go_case {s : Addr} {M : Mach} {n : Nat} {o : GO} {G : Gp} {R : DK} (hM : M.ok) (hb : M.b * (M.names.length + M.c) ≤ 12) (e : G s = some o) (ho : BagO n o) (hn : n ≤ 800000) (h : ∀ (to wd : Nat) (ts : List (Nat × Nat)) (w : List Int) o', CaseOk M to wd ts w → ts.length ≤ 2 → BagO (n + 10) o' → R (.tup [(caseM M to wd ts).d, dueC M to wd w]) (gup G s o')) : sp__law_case [M.d, .ref s] G R := ⟨s, M, n, o, rfl, hM, hb, e, ho, hn, h⟩
end K68


set_option Elab.async false
set_option linter.all false
set_option maxRecDepth 100000
set_option maxHeartbeats 4000000
set_option autoImplicit false
namespace K68
open PySem PySem.Spec PyProof.Rows L2 DL
local macro_rules | `(tactic| walk_at "d") => `(tactic| dsimp only [dSeq, dNext, dIfS, dRet, dRetN, dAsg, dName, dVar, dC, dOp, dUn, dChain, dB, dAnd, dOr, dNot, dAndV, dOrV, dNotV, dIf, dNil, dCons, dTup, dLst, newL, dCallB, dCall, dCallK, dDrop, dAug, dAugS, dSub, dM, dM0, dSlice, dNoPart, dPart, dLc, dYes, dFor, dIter, dRng1, dEnum, dZipM, srcD, dStar, dInK, dIxK, dLenSet, dRev,
  startD, wipeD, setAll, dNames, List.map_cons, List.map_nil, List.length_cons, List.length_nil, List.replicate, List.cons_append, List.nil_append, List.append_nil, List.getElem?_cons_zero, List.getElem?_cons_succ, List.set_cons_zero, List.set_cons_succ, List.map, Nat.zero_add, Nat.reduceAdd, Nat.reduceSub, Nat.sub_self, Nat.succ_sub_succ_eq_sub])
local macro_rules | `(tactic| walk_at "o") => `(tactic| simp only [dAdd_ii, dAdd_ss, dAdd_tt, dAdd_ll, dMinus_ii, dMul_ii, dMod_ii, dFdiv_ii, dPow_ii, dShl_ii, dNeg_i, dIadd_ii, dLt_ii, dLe_ii, dGt_ii, dGe_ii, dEq_ii, dNe_ii, dEq_ss, dNe_ss, dEq_bb, dNe_bb, dIs_n, dIsNot_n, dMax2_ii, dMin2_ii, dTuple_t, dTuple_l, dList_t, dList_l, dIx_t, dIx_l, dIx_s, dSl_t, dSl_l, dSl_s, newL_f, len_tup, len_lst])
local macro_rules | `(tactic| walk_at "w") => `(tactic| dsimp only [x_var, x_c, x_op, x_un, x_b, x_and, x_or, x_not, x_chain, x_andV, x_orV, x_notV, x_if, x_nil, x_cons, x_tup, x_lst0, x_lst1, x_callB, x_call, x_callK, x_next, x_seq, x_break, x_cont, x_drop, x_ret, x_ifS, x_asg, x_name, x_names, x_sub, x_aug, x_augS, x_for, x_lc0, x_lc1, x_yes, x_noPart, x_part, x_slice, x_iter, it_t, it_l, it_n, it_s, it_r, x_rng1, x_enum, x_rev, x_m, x_m0, x_mX, x_zip, x_star_t, x_star_l, x_lenSet, x_forgo0, x_lcgo0, x_while, x_par, x_sortK,
  br_t, br_f, isB_bl, isI_int, isN_some, slo_some, atL_lst, ix_t, ix_l, ix_n,
  dAdd_ii, dAdd_ss, dAdd_tt, dAdd_ll, dMinus_ii, dMul_ii, dMod_ii, dFdiv_ii, dPow_ii, dShl_ii, dNeg_i, dIadd_ii, dLt_ii, dLe_ii, dGt_ii, dGe_ii, ltE_ii, ltE_ss, srcD, isi_i, isi_s, isi_b, isi_n, isi_t, isi_nt, isi_l, isi2_i, isi2_s, isi2_b, isi2_n, isi2_t, isi2_nt, isi2_l, inon_n, inon_i, inon_s, inon_b, inon_t, inon_l, inon_r, dEq_ii, dNe_ii, dEq_ss, dNe_ss, dEq_bb, dNe_bb, dIs_n, dIsNot_n, dMax2_ii, dMin2_ii, dTuple_t, dTuple_l, dList_t, dList_l, dSl_t, dSl_l, dSl_s, newL_f, newL_t, app_r, int_b, int_i, strI_i, strX_i, strX_s,
  startD, wipeD, setAll, permL, List.filterMap, List.map_cons, List.map_nil, List.length_cons, List.length_nil, List.replicate, List.cons_append, List.nil_append, List.append_nil, List.getElem?_cons_zero, List.getElem?_cons_succ, List.set_cons_zero, List.set_cons_succ, List.map, Nat.zero_add, Nat.reduceAdd, Nat.reduceSub, Nat.sub_self, Nat.succ_sub_succ_eq_sub])
local macro_rules | `(tactic| walk_at "v") => `(tactic| simp only [ofString_inj, String.reduceEq, at_0, at_1, at_2, at_3, at_4, at_5, isN_some, isBB_bl, isB_bl, br_t, br_f, br_not, br_and, br_or, br_dec, ix_r, len_tup, len_lst, len_nt, ltE_key, gup_gup, gup_same, starD_one, cut1, cut2, kt1, kt2, kt3, kt4, kt5, kt6, isTy, String.reduceBEq, Bool.or_false, Bool.false_or, Bool.true_or, Bool.or_true, Bool.and_false, Bool.false_and, Bool.true_and, Bool.and_true, Bool.not_true, Bool.not_false, decide_true, decide_false, eq_self_iff_true, Bool.false_eq_true, Int.reduceAdd, Int.add_zero, if_true, if_false, true_and, and_true])
local macro_rules | `(tactic| walk_at "side") => `(tactic| first | with_reducible assumption | omega | exact mty_up | exact True.intro | (simp only [List.mem_cons, ofString_inj, String.reduceEq, true_or, or_true, List.length_map]; done) | with_reducible exact (rfl : (_ : Nat) = _) | exact (rfl : (_ : Option String) = _) | (refine small_line ?_; omega) | (walk_at "ll"; first | omega | (refine small_line ?_; omega) | fail) | (exact log_small (by omega)) | fail)
local macro_rules | `(tactic| walk_at "x") => `(tactic| fail)
local macro_rules | `(tactic| walk_at "go") => `(tactic| repeat' (first | dsimp only [x_var, x_c, x_op, x_un, x_b, x_and, x_or, x_not, x_chain, x_andV, x_orV, x_notV, x_if, x_nil, x_cons, x_tup, x_lst0, x_lst1, x_callB, x_call, x_callK, x_next, x_seq, x_break, x_cont, x_drop, x_ret, x_ifS, x_asg, x_name, x_names, x_sub, x_aug, x_augS, x_for, x_lc0, x_lc1, x_yes, x_noPart, x_part, x_slice, x_iter, it_t, it_l, it_n, it_s, it_r, x_rng1, x_enum, x_rev, x_m, x_m0, x_mX, x_zip, x_star_t, x_star_l, x_lenSet, x_forgo0, x_lcgo0, x_while, x_par, x_sortK, br_t, br_f, isB_bl, isI_int, isN_some, slo_some, atL_lst, ix_t, ix_l, ix_n, dAdd_ii, dAdd_ss, dAdd_tt, dAdd_ll, dMinus_ii, dMul_ii, dMod_ii, dFdiv_ii, dPow_ii, dShl_ii, dNeg_i, dIadd_ii, dLt_ii, dLe_ii, dGt_ii, dGe_ii, ltE_ii, ltE_ss, srcD, isi_i, isi_s, isi_b, isi_n, isi_t, isi_nt, isi_l, isi2_i, isi2_s, isi2_b, isi2_n, isi2_t, isi2_nt, isi2_l, inon_n, inon_i, inon_s, inon_b, inon_t, inon_l, inon_r, dEq_ii, dNe_ii, dEq_ss, dNe_ss, dEq_bb, dNe_bb, dIs_n, dIsNot_n, dMax2_ii, dMin2_ii, dTuple_t, dTuple_l, dList_t, dList_l, dSl_t, dSl_l, dSl_s, newL_f, newL_t, app_r, int_b, int_i, strI_i, strX_i, strX_s, startD, wipeD, setAll, permL, List.filterMap, List.map_cons, List.map_nil, List.length_cons, List.length_nil, List.replicate, List.cons_append, List.nil_append, List.append_nil, List.getElem?_cons_zero, List.getElem?_cons_succ, List.set_cons_zero, List.set_cons_succ, List.map, Nat.zero_add, Nat.reduceAdd, Nat.reduceSub, Nat.sub_self, Nat.succ_sub_succ_eq_sub] | simp only [ofString_inj, String.reduceEq, at_0, at_1, at_2, at_3, at_4, at_5, isN_some, isBB_bl, isB_bl, br_t, br_f, br_not, br_and, br_or, br_dec, ix_r, len_tup, len_lst, len_nt, ltE_key, gup_gup, gup_same, starD_one, cut1, cut2, kt1, kt2, kt3, kt4, kt5, kt6, isTy, String.reduceBEq, Bool.or_false, Bool.false_or, Bool.true_or, Bool.or_true, Bool.and_false, Bool.false_and, Bool.true_and, Bool.and_true, Bool.not_true, Bool.not_false, decide_true, decide_false, eq_self_iff_true, Bool.false_eq_true, Int.reduceAdd, Int.add_zero, if_true, if_false, true_and, and_true] | walk_at "x" | with_reducible refine kont_go ?_ | with_reducible refine rt_sub (by assumption) ?_ | with_reducible refine rt_lst (by assumption) ?_ | with_reducible refine rt_drop (by assumption) ?_ | with_reducible refine rt_keep (by assumption) (by assumption) ?_ | with_reducible refine rt_same ?_ | (refine fun (p : Addr) (_ : _ = none) => ?_) | refine join_gor gup_same rfl (by walk_at "side") ?_ | with_reducible refine lc_cons ?_ | with_reducible refine for_cons ?_ | refine join_go rfl (by walk_at "side") ?_ | refine And.intro (by first | with_reducible assumption | omega | exact mty_up | exact True.intro | (simp only [List.mem_cons, ofString_inj, String.reduceEq, true_or, or_true, List.length_map]; done) | with_reducible exact (rfl : (_ : Nat) = _) | exact (rfl : (_ : Option String) = _) | (refine small_line ?_; omega) | (walk_at "ll"; first | omega | (refine small_line ?_; omega) | fail) | (exact log_small (by omega)) | fail) ?_ | fail))
local macro_rules | `(tactic| walk_at "ll") => `(tactic| simp only [List.length_map, List.length_append, List.length_cons, List.length_nil, List.map_cons, List.map_nil, List.sum_cons, List.sum_nil, len_app, rng_length, ll_0, ll_1, ll_2, ll_3, ll_4, ll_5, ll_6, ll_7, ll_8, ll_9, ll_10, ll_11, ll_12, ll_13, ll_14, ll_15, ll_16, ll_17, ll_18, ll_19, ll_20, ll_21, ll_22, ll_23, ll_24, ll_25, ll_26, ll_27, ll_28, ll_29, ll_30, ll_31, ll_32, ll_33, ll_34])
/-! ### machines of too many bits -/
def sixN : List Str := ["a", "b", "c", "d", "e", "f"]
theorem six_ok {m : Nat} (h1 : 1 ≤ m) (h2 : m ≤ 6) : NamesOk (sixN.take m) := by
  rcases (show m = 1 ∨ m = 2 ∨ m = 3 ∨ m = 4 ∨ m = 5 ∨ m = 6 by omega) with rfl | rfl | rfl | rfl | rfl | rfl <;> exact ⟨by decide +kernel, by decide +kernel⟩
def sixM (b m c : Nat) : Mach := ⟨b, sixN.take m, 1, 1, 1, c⟩
theorem sixM_ok {b m c : Nat} (hb1 : 1 ≤ b) (hb2 : b ≤ 8) (h1 : 1 ≤ m) (h2 : m ≤ 6) (hc : (c : Int) ≤ 2 ^ b) : (sixM b m c).ok := by
  have hl : (sixN.take m).length = m := by rw [List.length_take]; show min m 6 = m; omega
  exact ⟨by show (1 : Int) ≤ (b : Int); omega, by show (b : Int) ≤ 8; omega, by show 1 ≤ (sixN.take m).length; omega, by show (sixN.take m).length ≤ 6; omega, six_ok h1 h2, (by decide : (0 : Int) ≤ 1), (by decide : (1 : Int) ≤ 12), (by decide : (1 : Int) ≤ 1), (by decide : (1 : Int) ≤ 3), (by decide : (1 : Int) ≤ 1), (by decide : (1 : Int) ≤ 3), by show (0 : Int) ≤ (c : Int); omega, by show (c : Int) ≤ 2 ^ ((b : Int)).toNat; rw [Int.toNat_natCast]; exact hc⟩
theorem sixM_len {b m c : Nat} (h2 : m ≤ 6) : (sixM b m c).names.length = m := by show (sixN.take m).length = m; rw [List.length_take]; show min m 6 = m; omega
def nopM : Mn := .doo [] none
theorem nop_ok (M : Mach) : nopM.ok M := ⟨by simp, fun p hp => (by cases hp), fun p hp => (by cases hp), fun p hp => (by cases hp), by simp⟩
def sp__law_refused (a : Ad) : DSp := fun ds G R => ∃ b m c : Nat, ds = [.int b, .int m, .int c] ∧ 1 ≤ b ∧ b ≤ 8 ∧ 1 ≤ m ∧ m ≤ 6 ∧ (c : Int) ≤ 2 ^ b ∧ (12 < b * (m + c) → R (.bl true) G) ∧ (b * (m + c) ≤ 12 → R (.bl false) G)
local macro_rules | `(tactic| walk_at "x") => `(tactic| first | dsimp only [x_sliceN, x_tupN, x_tryK, x_callX, isN_ref] | fail)
theorem ok__law_refused {P : Program} {w : World} {K : PySem.W.Frag} {mg : Str → Option Value} {base : Heap} {a : Ad} (T : Tx w K mg a) : FnD P w K mg base 22 a.f__law_refused a.fd__law_refused ["bits", "many", "cells"] (sp__law_refused a) := by
  refine fun_okD T.F__law_refused sc__law_refused (fun ds G R h => ?_) (fun cdv A outer s H hr => ⟨_, (qss_cons (qs_set (i := 3) sc__law_refused.nd rfl (.inl rfl) (qe_tup (qa_cons (qv 0) (qa_cons (qe_sliceN (qe_tupN (qa_cons qe_str (qa_cons qe_str (qa_cons qe_str (qa_cons qe_str (qa_cons qe_str (qa_cons qe_str qa_nil))))))) qo_none (qo_some (qv 1))) (qa_cons qe_int (qa_cons qe_int (qa_cons qe_int (qa_cons (qv 2) qa_nil))))))))
      (qss_cons (qs_set (i := 4) sc__law_refused.nd rfl (.inl rfl) qe_non)
      (qss_cons (qs_tryKeep (i := 5) (j := 4) rfl rfl rfl sc__law_refused.nd rfl rfl rfl (.inl rfl) ⟨rfl, by decide, .inl T.gx_LoftError⟩ (fun _ _ _ tk hp => (ssx_one (sx_expr (ex_callA (fun σ => L2N.passAt tk σ) (ok_differs T) (hr.mono (by omega)) rfl T.g_differs T.F_differs.kp T.b_differs (ax_of (qa_cons (qv 3) (qa_cons (qe_tup (qa_cons qe_str (qa_cons (qe_tup qa_nil) (qa_cons (qe_tup qa_nil) qa_nil)))) (qa_cons (qe_tup (qa_cons (qe_tup (qa_cons (qe_tup qa_nil) (qa_cons (qe_tup (qa_cons qe_str qa_nil)) qa_nil))) qa_nil)) qa_nil))))))))
      (fun _ _ => pss_cons (ps_set (i := 4) sc__law_refused.nd rfl (.inl rfl) (pv 5)) pss_nil))
      (qss_one (qs_ret (qe_and (qe_callB cd_isiN rfl T.n_isinstance (by decide +kernel) (qa_cons (qv 4) (qa_cons (qe_glob (d := .ref a.x_TooMany) (v := .ref a.x_TooMany) rfl T.gx_TooMany rfl (fun _ _ => RD.ref _)) qa_nil))) (qe_one (qe_callB cd_isiN rfl T.n_isinstance (by decide +kernel) (qa_cons (qv 4) (qa_cons (qe_ty (n := "ValueError") rfl T.n_ValueError (by decide +kernel)) qa_nil)))))))))), fun ds G R h => ?_⟩)
  · obtain ⟨b, m, c, rfl, _⟩ := h; rfl
  · obtain ⟨b, m, c, rfl, hb1, hb2, hm1, hm2, hc, h1, h2⟩ := h
    have hM := sixM_ok hb1 hb2 hm1 hm2 hc
    have hl := sixM_len (b := b) (c := c) hm2
    refine seq_cut (fun σ' G' => σ' = [some (.int (b : Nat)), some (.int (m : Nat)), some (.int (c : Nat)), some (sixM b m c).d, none, none] ∧ G' = G) ?_ (fun N1 hN1 => ?_)
    rotate_left
    · walk_at "go"
      refine ⟨sixN, rfl, ?_⟩
      rw [cut_take]
      walk_at "go"
      exact hN1 _ _ ⟨rfl, rfl⟩
    rintro σ G1 ⟨rfl, rfl⟩
    have eb : (sixM b m c).b * ((sixM b m c).names.length + (sixM b m c).c) = ((b * (m + c) : Nat) : Int) := by
      rw [hl, Int.natCast_mul, Int.natCast_add]; rfl
    by_cases hbig : 12 < b * (m + c)
    · have h := h1 hbig
      walk_at "go"
      refine ⟨sixM b m c, nopM, rfl, hM, .inl ⟨by rw [eb]; omega, subX_same (keep_go T.xm_TooMany_LoftError fun p np => ?_)⟩⟩
      have eG : gup G1 p (.ex (.ref a.x_TooMany) []) p = some (.ex (.ref a.x_TooMany) []) := gup_same
      have hS4 : DL.Sub G1 (gup G1 p (.ex (.ref a.x_TooMany) [])) := Sub.new np
      generalize gup G1 p (.ex (.ref a.x_TooMany) []) = G4 at eG hS4 ⊢
      clear h1 h2
      walk_at "go"
      refine isE_one eG T.ec_TooMany rfl T.ki_TooMany_TooMany ?_
      walk_at "go"
      refine isE_one eG T.ec_TooMany rfl T.ki_TooMany_ValueError ?_
      walk_at "go"
      exact h
    · have h := h2 (by omega)
      walk_at "go"
      refine go_differs hM (by rw [eb]; omega) (nop_ok _) (by decide) (fun W _ => by simp [nopM, behF, wrtAll, stoF]) ?_
      walk_at "go"
      refine isN_non T.kn_TooMany ?_
      walk_at "go"
      exact h
theorem go_refused {a : Ad} {b m c : Nat} {G : Gp} {R : DK} (hb1 : 1 ≤ b) (hb2 : b ≤ 8) (hm1 : 1 ≤ m) (hm2 : m ≤ 6) (hc : (c : Int) ≤ 2 ^ b) (k : R (.bl (decide (12 < b * (m + c)))) G) : sp__law_refused a [.int b, .int m, .int c] G R := ⟨b, m, c, rfl, hb1, hb2, hm1, hm2, hc, fun h => by rw [decide_eq_true h] at k; exact k, fun h => by rw [decide_eq_false (by omega)] at k; exact k⟩
end K68


set_option Elab.async false
set_option linter.all false
set_option maxRecDepth 100000
set_option maxHeartbeats 4000000
set_option autoImplicit false
namespace K68
open PySem PySem.Spec PyProof.Rows L2 DL
local macro_rules | `(tactic| walk_at "d") => `(tactic| dsimp only [dSeq, dNext, dIfS, dRet, dRetN, dAsg, dName, dVar, dC, dOp, dUn, dChain, dB, dAnd, dOr, dNot, dAndV, dOrV, dNotV, dIf, dNil, dCons, dTup, dLst, newL, dCallB, dCall, dCallK, dDrop, dAug, dAugS, dSub, dM, dM0, dSlice, dNoPart, dPart, dLc, dYes, dFor, dIter, dRng1, dEnum, dZipM, srcD, dStar, dInK, dIxK, dLenSet, dRev,
  startD, wipeD, setAll, dNames, List.map_cons, List.map_nil, List.length_cons, List.length_nil, List.replicate, List.cons_append, List.nil_append, List.append_nil, List.getElem?_cons_zero, List.getElem?_cons_succ, List.set_cons_zero, List.set_cons_succ, List.map, Nat.zero_add, Nat.reduceAdd, Nat.reduceSub, Nat.sub_self, Nat.succ_sub_succ_eq_sub])
local macro_rules | `(tactic| walk_at "o") => `(tactic| simp only [dAdd_ii, dAdd_ss, dAdd_tt, dAdd_ll, dMinus_ii, dMul_ii, dMod_ii, dFdiv_ii, dPow_ii, dShl_ii, dNeg_i, dIadd_ii, dLt_ii, dLe_ii, dGt_ii, dGe_ii, dEq_ii, dNe_ii, dEq_ss, dNe_ss, dEq_bb, dNe_bb, dIs_n, dIsNot_n, dMax2_ii, dMin2_ii, dTuple_t, dTuple_l, dList_t, dList_l, dIx_t, dIx_l, dIx_s, dSl_t, dSl_l, dSl_s, newL_f, len_tup, len_lst])
local macro_rules | `(tactic| walk_at "w") => `(tactic| dsimp only [x_var, x_c, x_op, x_un, x_b, x_and, x_or, x_not, x_chain, x_andV, x_orV, x_notV, x_if, x_nil, x_cons, x_tup, x_lst0, x_lst1, x_callB, x_call, x_callK, x_next, x_seq, x_break, x_cont, x_drop, x_ret, x_ifS, x_asg, x_name, x_names, x_sub, x_aug, x_augS, x_for, x_lc0, x_lc1, x_yes, x_noPart, x_part, x_slice, x_iter, it_t, it_l, it_n, it_s, it_r, x_rng1, x_enum, x_rev, x_m, x_m0, x_mX, x_zip, x_star_t, x_star_l, x_lenSet, x_forgo0, x_lcgo0, x_while, x_par, x_sortK,
  br_t, br_f, isB_bl, isI_int, isN_some, slo_some, atL_lst, ix_t, ix_l, ix_n,
  dAdd_ii, dAdd_ss, dAdd_tt, dAdd_ll, dMinus_ii, dMul_ii, dMod_ii, dFdiv_ii, dPow_ii, dShl_ii, dNeg_i, dIadd_ii, dLt_ii, dLe_ii, dGt_ii, dGe_ii, ltE_ii, ltE_ss, srcD, isi_i, isi_s, isi_b, isi_n, isi_t, isi_nt, isi_l, isi2_i, isi2_s, isi2_b, isi2_n, isi2_t, isi2_nt, isi2_l, inon_n, inon_i, inon_s, inon_b, inon_t, inon_l, inon_r, dEq_ii, dNe_ii, dEq_ss, dNe_ss, dEq_bb, dNe_bb, dIs_n, dIsNot_n, dMax2_ii, dMin2_ii, dTuple_t, dTuple_l, dList_t, dList_l, dSl_t, dSl_l, dSl_s, newL_f, newL_t, app_r, int_b, int_i, strI_i, strX_i, strX_s,
  startD, wipeD, setAll, permL, List.filterMap, List.map_cons, List.map_nil, List.length_cons, List.length_nil, List.replicate, List.cons_append, List.nil_append, List.append_nil, List.getElem?_cons_zero, List.getElem?_cons_succ, List.set_cons_zero, List.set_cons_succ, List.map, Nat.zero_add, Nat.reduceAdd, Nat.reduceSub, Nat.sub_self, Nat.succ_sub_succ_eq_sub])
local macro_rules | `(tactic| walk_at "v") => `(tactic| simp only [ofString_inj, String.reduceEq, at_0, at_1, at_2, at_3, at_4, at_5, isN_some, isBB_bl, isB_bl, br_t, br_f, br_not, br_and, br_or, br_dec, ix_r, len_tup, len_lst, len_nt, ltE_key, gup_gup, gup_same, starD_one, cut1, cut2, kt1, kt2, kt3, kt4, kt5, kt6, isTy, String.reduceBEq, Bool.or_false, Bool.false_or, Bool.true_or, Bool.or_true, Bool.and_false, Bool.false_and, Bool.true_and, Bool.and_true, Bool.not_true, Bool.not_false, decide_true, decide_false, eq_self_iff_true, Bool.false_eq_true, Int.reduceAdd, Int.add_zero, if_true, if_false, true_and, and_true])
local macro_rules | `(tactic| walk_at "side") => `(tactic| first | with_reducible assumption | omega | exact mty_up | exact True.intro | (simp only [List.mem_cons, ofString_inj, String.reduceEq, true_or, or_true, List.length_map]; done) | with_reducible exact (rfl : (_ : Nat) = _) | exact (rfl : (_ : Option String) = _) | (refine small_line ?_; omega) | (walk_at "ll"; first | omega | (refine small_line ?_; omega) | fail) | (exact log_small (by omega)) | fail)
local macro_rules | `(tactic| walk_at "x") => `(tactic| fail)
local macro_rules | `(tactic| walk_at "go") => `(tactic| repeat' (first | dsimp only [x_var, x_c, x_op, x_un, x_b, x_and, x_or, x_not, x_chain, x_andV, x_orV, x_notV, x_if, x_nil, x_cons, x_tup, x_lst0, x_lst1, x_callB, x_call, x_callK, x_next, x_seq, x_break, x_cont, x_drop, x_ret, x_ifS, x_asg, x_name, x_names, x_sub, x_aug, x_augS, x_for, x_lc0, x_lc1, x_yes, x_noPart, x_part, x_slice, x_iter, it_t, it_l, it_n, it_s, it_r, x_rng1, x_enum, x_rev, x_m, x_m0, x_mX, x_zip, x_star_t, x_star_l, x_lenSet, x_forgo0, x_lcgo0, x_while, x_par, x_sortK, br_t, br_f, isB_bl, isI_int, isN_some, slo_some, atL_lst, ix_t, ix_l, ix_n, dAdd_ii, dAdd_ss, dAdd_tt, dAdd_ll, dMinus_ii, dMul_ii, dMod_ii, dFdiv_ii, dPow_ii, dShl_ii, dNeg_i, dIadd_ii, dLt_ii, dLe_ii, dGt_ii, dGe_ii, ltE_ii, ltE_ss, srcD, isi_i, isi_s, isi_b, isi_n, isi_t, isi_nt, isi_l, isi2_i, isi2_s, isi2_b, isi2_n, isi2_t, isi2_nt, isi2_l, inon_n, inon_i, inon_s, inon_b, inon_t, inon_l, inon_r, dEq_ii, dNe_ii, dEq_ss, dNe_ss, dEq_bb, dNe_bb, dIs_n, dIsNot_n, dMax2_ii, dMin2_ii, dTuple_t, dTuple_l, dList_t, dList_l, dSl_t, dSl_l, dSl_s, newL_f, newL_t, app_r, int_b, int_i, strI_i, strX_i, strX_s, startD, wipeD, setAll, permL, List.filterMap, List.map_cons, List.map_nil, List.length_cons, List.length_nil, List.replicate, List.cons_append, List.nil_append, List.append_nil, List.getElem?_cons_zero, List.getElem?_cons_succ, List.set_cons_zero, List.set_cons_succ, List.map, Nat.zero_add, Nat.reduceAdd, Nat.reduceSub, Nat.sub_self, Nat.succ_sub_succ_eq_sub] | simp only [ofString_inj, String.reduceEq, at_0, at_1, at_2, at_3, at_4, at_5, isN_some, isBB_bl, isB_bl, br_t, br_f, br_not, br_and, br_or, br_dec, ix_r, len_tup, len_lst, len_nt, ltE_key, gup_gup, gup_same, starD_one, cut1, cut2, kt1, kt2, kt3, kt4, kt5, kt6, isTy, String.reduceBEq, Bool.or_false, Bool.false_or, Bool.true_or, Bool.or_true, Bool.and_false, Bool.false_and, Bool.true_and, Bool.and_true, Bool.not_true, Bool.not_false, decide_true, decide_false, eq_self_iff_true, Bool.false_eq_true, Int.reduceAdd, Int.add_zero, if_true, if_false, true_and, and_true] | walk_at "x" | with_reducible refine kont_go ?_ | with_reducible refine rt_sub (by assumption) ?_ | with_reducible refine rt_lst (by assumption) ?_ | with_reducible refine rt_drop (by assumption) ?_ | with_reducible refine rt_keep (by assumption) (by assumption) ?_ | with_reducible refine rt_same ?_ | (refine fun (p : Addr) (_ : _ = none) => ?_) | refine join_gor gup_same rfl (by walk_at "side") ?_ | with_reducible refine lc_cons ?_ | with_reducible refine for_cons ?_ | refine join_go rfl (by walk_at "side") ?_ | refine And.intro (by first | with_reducible assumption | omega | exact mty_up | exact True.intro | (simp only [List.mem_cons, ofString_inj, String.reduceEq, true_or, or_true, List.length_map]; done) | with_reducible exact (rfl : (_ : Nat) = _) | exact (rfl : (_ : Option String) = _) | (refine small_line ?_; omega) | (walk_at "ll"; first | omega | (refine small_line ?_; omega) | fail) | (exact log_small (by omega)) | fail) ?_ | fail))
local macro_rules | `(tactic| walk_at "ll") => `(tactic| simp only [List.length_map, List.length_append, List.length_cons, List.length_nil, List.map_cons, List.map_nil, List.sum_cons, List.sum_nil, len_app, rng_length, ll_0, ll_1, ll_2, ll_3, ll_4, ll_5, ll_6, ll_7, ll_8, ll_9, ll_10, ll_11, ll_12, ll_13, ll_14, ll_15, ll_16, ll_17, ll_18, ll_19, ll_20, ll_21, ll_22, ll_23, ll_24, ll_25, ll_26, ll_27, ll_28, ll_29, ll_30, ll_31, ll_32, ll_33, ll_34])
theorem eq_empty {ds : List D} {G : Gp} {R : DK} (h : pyDs ds = true) (hd : depDs ds ≤ 60) : dEq (.lst ds) (.lst []) G R = R (.bl (decide (ds = []))) G := by
  refine propext ((eq_pure (by simpa only [pyD] using h) rfl (by simp only [depD]; omega) (by simp [depD, depDs])).trans ?_)
  cases ds with
  | nil => simp [eqD, eqDs]
  | cons d ds => simp [eqD, eqDs]
theorem cut_map {α β : Type} (f : α → β) (l : List α) (lo hi : Option Int) : cutL (l.map f) lo hi = (cutL l lo hi).map f := by
  unfold cutL
  rw [List.length_map, List.map_take, List.map_drop]
def trp (p : Nat × Nat × Nat) : D := .tup [.int (p.1 : Nat), .int (p.2.1 : Nat), .int (p.2.2 : Nat)]
def fitT (p : Nat × Nat × Nat) : Prop := 1 ≤ p.1 ∧ p.1 ≤ 8 ∧ 1 ≤ p.2.1 ∧ p.2.1 ≤ 6 ∧ (p.2.2 : Int) ≤ 2 ^ p.1
instance (p : Nat × Nat × Nat) : Decidable (fitT p) := by unfold fitT; infer_instance
def lowT : List (Nat × Nat × Nat) := [(2, 2, 4), (3, 1, 3), (4, 1, 2), (6, 1, 1), (2, 6, 0)]
def highT : List (Nat × Nat × Nat) := [(2, 3, 4), (3, 1, 4), (4, 1, 3), (4, 2, 16), (7, 1, 1), (8, 1, 256), (2, 6, 1), (7, 2, 0), (3, 5, 0)]
theorem lowT_ok : ∀ p ∈ lowT, fitT p ∧ p.1 * (p.2.1 + p.2.2) ≤ 12 := by decide
theorem highT_ok : ∀ p ∈ highT, fitT p ∧ 12 < p.1 * (p.2.1 + p.2.2) := by decide
theorem wldOf_pln {M : Mach} {l : List Int} (hn : M.names.length ≤ 6) (hh : M.h ≤ 12) (hl : l.length ≤ 100) : Pln 3 (wldOf M l).d := .tup (n := 2) _ (by simp) fun d hd => by
  simp only [List.mem_cons, List.not_mem_nil, or_false] at hd
  rcases hd with rfl | rfl | rfl
  · exact pln_ints (by show (l.take M.names.length).length ≤ 1000; rw [List.length_take]; omega)
  · exact pln_ints (by show (List.replicate M.h.toNat (0 : Int)).length ≤ 1000; rw [List.length_replicate]; omega)
  · exact pln_ints (by show (l.drop M.names.length).length ≤ 1000; rw [List.length_drop]; omega)
def sp_law : DSp := fun ds G R => match ds with
  | [.lst xs] => ∃ ns : List Int, xs = ns.map D.int ∧ ns.length ≤ 63 ∧ ∀ G', R (.bl true) G'
  | _ => False
def spV_law (K : PySem.W.Frag) : Sp := upSp K sp_law
theorem rds_ints {K : PySem.W.Frag} {H : Hp} {N : Ns} : ∀ ns : List Int, RDs K H N (ns.map D.int) (ns.map V.int)
  | [] => by simp only [List.map_nil, RDs]
  | n :: ns => by simp only [List.map_cons, RDs]; exact ⟨_, _, rfl, by simp only [RD], rds_ints ns⟩
theorem spV_at {K : PySem.W.Frag} {H : Hp} {a : Addr} {ns : List Int} (hl : ns.length ≤ 63) (hb : ∀ z ∈ ns, Builtin.Int.intBits z ≤ 1048576) (hS : SqL K H a (ns.map V.int)) : spV_law K [.ref a] H (fun v _ => v = .bl true) (fun _ _ _ => False) := by
  have hA : LstAt K H (fun _ => False) a (ns.map V.int) := by
    rcases hS with (h | h) | h
    · exact .inl ⟨h, fun z => z⟩
    · exact .inr (.inl h)
    · exact .inr (.inr h)
  refine ⟨[.lst (ns.map D.int)], fun _ => none, fun _ => False, fun d _ => d = .bl true, ?_, fun p o e => (by cases e), ⟨ns, rfl, hl, fun _ => rfl⟩, fun d G' N' v H' hd _ r => ?_⟩
  · simp only [RDs]
    exact ⟨_, [], rfl, RD.lst hA (rds_ints ns), rfl⟩
  · subst hd
    exact r.of_bl
local macro_rules | `(tactic| walk_at "x") => `(tactic| first
  | refine go_draw (by first | exact gup_same | assumption | fail) (by assumption) (by omega) (by walk_at "side") (by walk_at "side") fun _ _ _ _ => ?_
  | fail)
theorem ok_law {P : Program} {w : World} {K : PySem.W.Frag} {mg : Str → Option Value} {base : Heap} {a : Ad} (T : Tx w K mg a) : FnD P w K mg base 23 a.f_law a.fd_law ["script"] sp_law := by
  refine fun_okD T.F_law sc_law (fun ds G R h => ?_) (fun cdv A outer s H hr => ⟨_, (qss_cons (qs_set (i := 1) sc_law.nd rfl (.inl rfl) (qe_op (od_add false) (qe_slice false (qv 0) qo_none (qo_some qe_int)) (qe_op (od_rep false) (qe_lst true (qa_cons qe_int qa_nil)) (qe_callTy cd_int rfl T.n_int (by decide +kernel) (qa_cons (qe_cmp (od_eq hr.units) (qv 0) (qe_lst false qa_nil) (nomark _)) qa_nil)))))
      (qss_cons (qs_for PassesOwn.never rfl (qi_range1 rfl T.n_range (qa_cons (qe_callB cd_len rfl T.n_len (by decide +kernel) (qa_cons (qv 1) qa_nil)) qa_nil)) (qg_of (pg_name (i := 2) sc_law.nd rfl (.inl rfl)) (tg_name (i := 2) (ws := [2]) (by decide)))
      (qss_cons (qs_set (i := 3) sc_law.nd rfl (.inl rfl) (qe_call (ok__law_bag T) (hr.mono (by omega)) rfl T.g__law_bag T.F__law_bag.kp T.b__law_bag (qa_cons (qe_ix xd_ix (qv 1) (qv 2) (fun _ _ => rfl)) (qa_cons (qv 2) qa_nil))))
      (qss_cons (qs_set (i := 4) sc_law.nd rfl (.inl rfl) (qe_call (ok__law_machine T) (hr.mono (by omega)) rfl T.g__law_machine T.F__law_machine.kp T.b__law_machine (qa_cons (qv 3) (qa_cons (qe_ix xd_ix (qe_lst false (qa_cons qe_int (qa_cons qe_int qa_nil))) (qe_callTy cd_int rfl T.n_int (by decide +kernel) (qa_cons (qe_and (qe_cmp (od_eq hr.units) (qv 2) qe_int (nomark _)) (qe_one (qe_cmp (od_eq hr.units) (qe_call (ok__law_draw T) (hr.mono (by omega)) rfl T.g__law_draw T.F__law_draw.kp T.b__law_draw (qa_cons (qv 3) (qa_cons qe_int qa_nil))) qe_int (nomark _)))) qa_nil)) (fun _ _ => rfl)) qa_nil))))
      (qss_cons (qs_asg (qe_call (ok__law_case T) (hr.mono (by omega)) rfl T.g__law_case T.F__law_case.kp T.b__law_case (qa_cons (qv 4) (qa_cons (qv 3) qa_nil))) (qg_of (pg_tup rfl (pgs_cons (pg_name (i := 5) sc_law.nd rfl (.inl rfl)) (pgs_cons (pg_name (i := 6) sc_law.nd rfl (.inl rfl)) pgs_nil))) (tg_names (is := [5, 6]) (ws := [5, 6]) (by decide) rfl)))
      (qss_one (qs_if (qt_not (qt_val (qe_call (ok__law_same T) (hr.mono (by omega)) rfl T.g__law_same T.F__law_same.kp T.b__law_same (qa_cons (qe_call (FnX.calm (ok_differs T)) (hr.mono (by omega)) rfl T.g_differs T.F_differs.kp T.b_differs (qa_cons (qv 4) (qa_cons (qv 5) (qa_cons (qe_tup (qa_cons (qe_tup (qa_cons (qe_tup qa_nil) (qa_cons (qe_tup (qa_cons qe_str qa_nil)) qa_nil))) qa_nil)) qa_nil)))) (qa_cons (qv 6) qa_nil)))))
      (qss_one (qs_ret qe_bl))
      qss_nil))))))
      (qss_cons (qs_set (i := 3) sc_law.nd rfl (.inl rfl) (qe_call (ok__law_bag T) (hr.mono (by omega)) rfl T.g__law_bag T.F__law_bag.kp T.b__law_bag (qa_cons (qe_ix xd_ix (qv 1) qe_int (fun _ _ => rfl)) (qa_cons qe_int qa_nil))))
      (qss_cons (qs_asg (qe_ix xd_ix (qe_lst false (qa_cons (qe_tup (qa_cons qe_int (qa_cons qe_int (qa_cons qe_int qa_nil)))) (qa_cons (qe_tup (qa_cons qe_int (qa_cons qe_int (qa_cons qe_int qa_nil)))) (qa_cons (qe_tup (qa_cons qe_int (qa_cons qe_int (qa_cons qe_int qa_nil)))) (qa_cons (qe_tup (qa_cons qe_int (qa_cons qe_int (qa_cons qe_int qa_nil)))) (qa_cons (qe_tup (qa_cons qe_int (qa_cons qe_int (qa_cons qe_int qa_nil)))) qa_nil)))))) (qe_call (ok__law_draw T) (hr.mono (by omega)) rfl T.g__law_draw T.F__law_draw.kp T.b__law_draw (qa_cons (qv 3) (qa_cons qe_int qa_nil))) (fun _ _ => rfl)) (qg_of (pg_tup rfl (pgs_cons (pg_name (i := 7) sc_law.nd rfl (.inl rfl)) (pgs_cons (pg_name (i := 8) sc_law.nd rfl (.inl rfl)) (pgs_cons (pg_name (i := 9) sc_law.nd rfl (.inl rfl)) pgs_nil)))) (tg_names (is := [7, 8, 9]) (ws := [7, 8, 9]) (by decide) rfl)))
      (qss_cons (qs_if (qt_val (qe_call (ok__law_refused T) (hr.mono (by omega)) rfl T.g__law_refused T.F__law_refused.kp T.b__law_refused (qa_cons (qv 7) (qa_cons (qv 8) (qa_cons (qv 9) qa_nil)))))
      (qss_one (qs_ret qe_bl))
      qss_nil)
      (qss_cons (qs_set (i := 10) sc_law.nd rfl (.inl rfl) (qe_lst false (qa_cons (qe_tup (qa_cons qe_int (qa_cons qe_int (qa_cons qe_int qa_nil)))) (qa_cons (qe_tup (qa_cons qe_int (qa_cons qe_int (qa_cons qe_int qa_nil)))) (qa_cons (qe_tup (qa_cons qe_int (qa_cons qe_int (qa_cons qe_int qa_nil)))) (qa_cons (qe_tup (qa_cons qe_int (qa_cons qe_int (qa_cons qe_int qa_nil)))) (qa_cons (qe_tup (qa_cons qe_int (qa_cons qe_int (qa_cons qe_int qa_nil)))) (qa_cons (qe_tup (qa_cons qe_int (qa_cons qe_int (qa_cons qe_int qa_nil)))) (qa_cons (qe_tup (qa_cons qe_int (qa_cons qe_int (qa_cons qe_int qa_nil)))) (qa_cons (qe_tup (qa_cons qe_int (qa_cons qe_int (qa_cons qe_int qa_nil)))) (qa_cons (qe_tup (qa_cons qe_int (qa_cons qe_int (qa_cons qe_int qa_nil)))) qa_nil)))))))))))
      (qss_one (qs_ret (qe_callB (cd_all rfl) rfl T.n_all (by decide +kernel) (qa_cons (qe_lc false rfl sc_law.nd (qi_seq (qv 10)) (blkOk_by (own := [("bits", 7), ("many", 8), ("cells", 9)]) (N := N_law) (sc := defScope s_law) (by decide +kernel)) (fun _ _ _ _ _ => (pg_tup rfl (pgs_cons (pg_name (i := 7) sc_law.nd rfl (.inl rfl)) (pgs_cons (pg_name (i := 8) sc_law.nd rfl (.inl rfl)) (pgs_cons (pg_name (i := 9) sc_law.nd rfl (.inl rfl)) pgs_nil))))) (tg_names (is := [7, 8, 9]) (by decide) rfl) (fun _ _ _ _ _ => qts_nil) (fun _ _ _ _ _ => (qe_call (ok__law_refused T) (hr.mono (by omega)) rfl T.g__law_refused T.F__law_refused.kp T.b__law_refused (qa_cons (qv 7) (qa_cons (qv 8) (qa_cons (qv 9) qa_nil)))))) qa_nil)))))))))), fun ds G R h => ?_⟩)
  · unfold sp_law at h; split at h; rfl; exact h.elim
  · unfold sp_law at h
    split at h
    · obtain ⟨ns, rfl, hl, h⟩ := h
      refine seq_cut (fun σ' G' => ∃ cs : List Int, σ' = [some (D.lst (ns.map D.int)), some (.lst (cs.map D.int)), none, none, none, none, none, none, none, none, none] ∧ cs.length ≤ 10 ∧ 0 < cs.length) ?_ (fun N1 hN1 => ?_)
      rotate_left
      · walk_at "go"
        rename_i p np
        obtain ⟨py1, py2⟩ := ints_py ns
        rw [eq_empty py1 (by omega)]
        walk_at "go"
        refine rep_go (ds := [.int 0]) gup_same (by split <;> decide) (by split <;> decide) (by split <;> decide) ?_
        walk_at "go"
        rw [cut_map]
        generalize hk : Int.toNat (if decide (List.map D.int ns = []) = true then 1 else 0) = k
        have hk1 : k ≤ 1 := by rw [← hk]; split <;> decide
        have er : (List.replicate k [D.int 0]).flatten = (List.replicate k (0 : Int)).map D.int := by
          rcases (show k = 0 ∨ k = 1 by omega) with rfl | rfl <;> rfl
        rw [er]
        have e6 : cutL ns none (some 6) = ns.take 6 := cut_take ns 6
        rw [e6]
        refine ⟨by rw [sizeLine_eq]; simp only [List.length_map, List.length_replicate, List.length_take]; omega, ?_⟩
        rw [← List.map_append]
        refine hN1 _ _ ⟨_, rfl, by simp only [List.length_append, List.length_replicate, List.length_take]; omega, ?_⟩
        simp only [List.length_append, List.length_replicate, List.length_take]
        cases ns with
        | nil => rw [← hk]; decide
        | cons z zs => simp only [List.length_cons]; omega
      rintro σ G1 ⟨cs, rfl, hcs, hc0⟩
      refine seq_cut (fun σ' G' => ∃ (x2 x3 x4 x5 x6 : Option D), σ' = [some (D.lst (ns.map D.int)), some (.lst (cs.map D.int)), x2, x3, x4, x5, x6, none, none, none, none]) ?_ (fun N1 hN1 => ?_)
      rotate_left
      · walk_at "go"
        rw [show ((cs.map D.int).length : Int).toNat = cs.length by simp]
        refine for_rng cs.length (fun k σ' G' => ∃ (x2 x3 x4 x5 x6 : Option D), σ' = [some (D.lst (ns.map D.int)), some (.lst (cs.map D.int)), x2, x3, x4, x5, x6, none, none, none, none]) ?turn ?fin _ _ ⟨none, none, none, none, none, rfl⟩
        case fin =>
          rintro σ' G' ⟨x2, x3, x4, x5, x6, rfl⟩
          exact hN1 _ _ ⟨_, _, _, _, _, rfl⟩
        case turn =>
          rintro k σ' G' hk ⟨x2, x3, x4, x5, x6, rfl⟩ N hN
          dsimp only [x_name, List.set_cons_zero, List.set_cons_succ]
          refine seq_cut (fun σ' G2 => ∃ (s : Addr) (o : GO), σ' = [some (D.lst (ns.map D.int)), some (.lst (cs.map D.int)), some (.int (k : Nat)), some (.ref s), x4, x5, x6, none, none, none, none] ∧ G2 s = some o ∧ BagO 5000 o) ?_ (fun N2 hN2 => ?_)
          rotate_left
          · walk_at "go"
            rw [atI_nat (j := k) (v := D.int cs[k]) (by rw [List.getElem?_map, List.getElem?_eq_getElem hk]; rfl)]
            walk_at "go"
            refine fun p o np ho => ?_
            exact hN2 _ _ ⟨p, o, rfl, gup_same, ho⟩
          rintro σ' G2 ⟨s, o, rfl, e, ho⟩
          refine seq_cut (fun σ' G2 => ∃ (M : Mach) (o : GO), σ' = [some (D.lst (ns.map D.int)), some (.lst (cs.map D.int)), some (.int (k : Nat)), some (.ref s), some M.d, x5, x6, none, none, none, none] ∧ G2 s = some o ∧ BagO 5005 o ∧ M.ok ∧ M.b * (M.names.length + M.c) ≤ 12) ?_ (fun N2 hN2 => ?_)
          rotate_left
          · have mk : ∀ (most : Int) (G3 : Gp) (o3 : GO), G3 s = some o3 → BagO 5001 o3 → 8 ≤ most → most ≤ 12 → sp__law_machine [.ref s, .int most] G3 (fun d G4 => N2 [some (D.lst (ns.map D.int)), some (.lst (cs.map D.int)), some (.int (k : Nat)), some (.ref s), some d, x5, x6, none, none, none, none] G4) := fun most G3 o3 e3 ho3 h1 h2 =>
              go_machine e3 ho3 (by omega) h1 h2 fun M o4 hM hb ho4 => hN2 _ _ ⟨M, o4, rfl, gup_same, ho4, hM, hb⟩
            walk_at "go"
            by_cases h0 : k = 0
            · rw [if_pos (by omega)]
              walk_at "go"
              rename_i r o1 hr ho1
              split
              · walk_at "go"
                exact mk _ _ o1 gup_same ho1 (by decide) (by decide)
              · walk_at "go"
                exact mk _ _ o1 gup_same ho1 (by decide) (by decide)
            · rw [if_neg (by omega)]
              exact mk _ _ o e (ho.mono (by omega)) (by decide) (by decide)
          rintro σ' G2 ⟨M, o, rfl, e, ho, hM, hb⟩
          walk_at "go"
          refine go_case hM hb e ho (by omega) fun to wd ts w o' C hts ho' => ?_
          walk_at "go"
          refine go_differs hM hb (caseM_ok hM C.to1 C.wd1 ts C.ts1) (by rw [caseM_lv]; omega) (case_beh_ne hM C) ?_
          rw [case_due hM C]
          have hpl : Pln 3 (dueC M to wd w) := by
            unfold dueC
            split
            · have := hM.n2; have := hM.h2
              have hb1 := hM.b1; have hc1 := hM.c1
              refine wldOf_pln (by omega) (by omega) ?_
              rw [C.len]
              have h1 : (M.names.length : Int) + M.c ≤ M.b * ((M.names.length : Int) + M.c) := by
                have := Int.mul_le_mul_of_nonneg_right hb1 (show (0 : Int) ≤ (M.names.length : Int) + M.c by omega)
                omega
              omega
            · exact .non
          rw [show (if w.getD to 0 ≠ (wd : Int) then (wldOf M w).d else D.non) = dueC M to wd w from rfl]
          walk_at "go"
          refine go_same hpl ?_
          walk_at "go"
          exact hN _ _ ⟨_, _, _, _, _, rfl⟩
      rintro σ G2 ⟨x2, x3, x4, x5, x6, rfl⟩
      refine seq_cut (fun σ' G' => ∃ (s : Addr) (o : GO) (x2 x4 x5 x6 : Option D), σ' = [some (D.lst (ns.map D.int)), some (.lst (cs.map D.int)), x2, some (.ref s), x4, x5, x6, none, none, none, none] ∧ G' s = some o ∧ BagO 5000 o) ?_ (fun N1 hN1 => ?_)
      rotate_left
      · walk_at "go"
        have hat : atI (cs.map D.int) 0 = some (.int cs[0]) := atI_nat (j := 0) (by rw [List.getElem?_map, List.getElem?_eq_getElem hc0]; rfl)
        rw [hat]
        walk_at "go"
        refine fun p o np ho => ?_
        exact hN1 _ _ ⟨p, o, _, _, _, _, rfl, gup_same, ho⟩
      rintro σ G3 ⟨s, o, x2, x4, x5, x6, rfl, e, ho⟩
      refine seq_cut (fun σ' G' => ∃ (q : Nat × Nat × Nat) (x2 x4 x5 x6 : Option D), σ' = [some (D.lst (ns.map D.int)), some (.lst (cs.map D.int)), x2, some (.ref s), x4, x5, x6, some (.int (q.1 : Nat)), some (.int (q.2.1 : Nat)), some (.int (q.2.2 : Nat)), none] ∧ q ∈ lowT) ?_ (fun N1 hN1 => ?_)
      rotate_left
      · walk_at "go"
        rename_i r o1 hr ho1
        have hr5 : r < lowT.length := by show r < 5; omega
        rw [atI_nat (j := r) (v := trp lowT[r]) (by show (lowT.map trp)[r]? = _; rw [List.getElem?_map, List.getElem?_eq_getElem hr5]; rfl)]
        unfold trp
        walk_at "go"
        exact hN1 _ _ ⟨lowT[r], _, _, _, _, rfl, List.getElem_mem hr5⟩
      rintro σ G4 ⟨q, x2, x4, x5, x6, rfl, hq⟩
      obtain ⟨⟨f1, f2, f3, f4, f5⟩, f6⟩ := lowT_ok q hq
      refine seq_cut (fun σ' G' => σ' = [some (D.lst (ns.map D.int)), some (.lst (cs.map D.int)), x2, some (.ref s), x4, x5, x6, some (.int (q.1 : Nat)), some (.int (q.2.1 : Nat)), some (.int (q.2.2 : Nat)), none] ∧ G' = G4) ?_ (fun N1 hN1 => ?_)
      rotate_left
      · walk_at "go"
        refine go_refused f1 f2 f3 f4 f5 ?_
        rw [decide_eq_false (by omega)]
        walk_at "go"
        exact hN1 _ _ ⟨rfl, rfl⟩
      rintro σ G4' ⟨rfl, rfl⟩
      refine seq_cut (fun σ' G' => ∃ (x2 x3 x4 x5 x6 x7 x8 x9 : Option D), σ' = [some (D.lst (ns.map D.int)), some (.lst (cs.map D.int)), x2, x3, x4, x5, x6, x7, x8, x9, some (.lst (highT.map trp))]) ?_ (fun N1 hN1 => ?_)
      rotate_left
      · repeat (refine And.intro (small_line (Nat.le_of_ble_eq_true rfl)) ?_)
        exact hN1 _ _ ⟨_, _, _, _, _, _, _, _, rfl⟩
      rintro σ G5 ⟨y2, y3, y4, y5, y6, y7, y8, y9, rfl⟩
      walk_at "go"
      refine ⟨small_line (by decide), ?_⟩
      refine all_typ (gd := fun _ => True) trp (fun _ => true) True.intro highT (fun q hq Q k => ?_) ?_
      · obtain ⟨⟨f1, f2, f3, f4, f5⟩, f6⟩ := highT_ok q hq
        unfold trp
        walk_at "go"
        refine go_refused f1 f2 f3 f4 f5 ?_
        rw [decide_eq_true f6]
        walk_at "go"
        exact k
      · rw [List.all_eq_true.mpr fun _ _ => rfl]
        walk_at "go"
        exact h _
    · exact h.elim
theorem all_mk {w : World} {K : PySem.W.Frag} {h : Heap} {mg : Str → Option Value} (X : K.In h) (G : h.Ns mainGlobals mg)
    {cX_LoftError : Addr} (aX_LoftError : PySem.W.nsIn K mainGlobals "LoftError" = some (some (.ref cX_LoftError))) (kX_LoftError : PySem.W.keepIn K (.ref cX_LoftError) = true) (bX_LoftError : PySem.W.subIn K (.ref cX_LoftError) (.type "BaseException") = some true) (tX_LoftError : PySem.W.typeIn K (.ref cX_LoftError) = some (.type "type")) (hX_LoftError : PySem.W.hasDictIn K cX_LoftError = true)
    {cX_TooMany : Addr} (aX_TooMany : PySem.W.nsIn K mainGlobals "TooMany" = some (some (.ref cX_TooMany))) (kX_TooMany : PySem.W.keepIn K (.ref cX_TooMany) = true) (bX_TooMany : PySem.W.subIn K (.ref cX_TooMany) (.type "BaseException") = some true) (tX_TooMany : PySem.W.typeIn K (.ref cX_TooMany) = some (.type "type")) (hX_TooMany : PySem.W.hasDictIn K cX_TooMany = true)
    (xX_TooMany : PySem.W.excIn K cX_TooMany [.type "ValueError", .type "Exception", .type "BaseException", .type "object"] "ValueError.__new__" = true)
    {cX_Trapped : Addr} (aX_Trapped : PySem.W.nsIn K mainGlobals "Trapped" = some (some (.ref cX_Trapped))) (kX_Trapped : PySem.W.keepIn K (.ref cX_Trapped) = true) (bX_Trapped : PySem.W.subIn K (.ref cX_Trapped) (.type "BaseException") = some true) (tX_Trapped : PySem.W.typeIn K (.ref cX_Trapped) = some (.type "type")) (hX_Trapped : PySem.W.hasDictIn K cX_Trapped = true)
    (xX_Trapped : PySem.W.excIn K cX_Trapped [.type "Exception", .type "BaseException", .type "object"] "Exception.__new__" = true)
    (sX_TooMany_LoftError : PySem.W.subIn K (.ref cX_TooMany) (.ref cX_LoftError) = some true)
    (sX_TooMany_Trapped : PySem.W.subIn K (.ref cX_TooMany) (.ref cX_Trapped) = some false)
    (sX_Trapped_LoftError : PySem.W.subIn K (.ref cX_Trapped) (.ref cX_LoftError) = some false)
    (sX_Trapped_Trapped : PySem.W.subIn K (.ref cX_Trapped) (.ref cX_Trapped) = some true)
    (en : PySem.W.specialIn K (.builtin "object.__class__") "__get__" = some (some (.builtin "getset_descriptor.__get__"))) (et : PySem.W.takesIn K (.builtin "object.__class__") = some true)
    (eg_TooMany : PySem.W.findIn K (.ref cX_TooMany) "__getattribute__" = some (some (.builtin "BaseException.__getattribute__"))) (ek_TooMany : PySem.W.findIn K (.ref cX_TooMany) "__getattr__" = some none) (ea_TooMany : PySem.W.findIn K (.ref cX_TooMany) "__class__" = some (some (.builtin "object.__class__"))) (em_TooMany : PySem.W.mroIn K cX_TooMany (.type "object") = some true) (es_TooMany : PySem.W.subIn K (.ref cX_TooMany) (.ref cX_TooMany) = some true)
    (eg_Trapped : PySem.W.findIn K (.ref cX_Trapped) "__getattribute__" = some (some (.builtin "BaseException.__getattribute__"))) (ek_Trapped : PySem.W.findIn K (.ref cX_Trapped) "__getattr__" = some none) (ea_Trapped : PySem.W.findIn K (.ref cX_Trapped) "__class__" = some (some (.builtin "object.__class__"))) (em_Trapped : PySem.W.mroIn K cX_Trapped (.type "object") = some true) (es_Trapped : PySem.W.subIn K (.ref cX_Trapped) (.ref cX_Trapped) = some true)
    (eT_TooMany_TooMany : PySem.W.subIn K (.ref cX_TooMany) (.ref cX_TooMany) = some true)
    (eT_Trapped_TooMany : PySem.W.subIn K (.ref cX_Trapped) (.ref cX_TooMany) = some false)
    (eN_TooMany : PySem.W.subIn K (.type "NoneType") (.ref cX_TooMany) = some false)
    (eB_TooMany_ValueError : PySem.W.subIn K (.ref cX_TooMany) (.type "ValueError") = some true)
    (eB_Trapped_ValueError : PySem.W.subIn K (.ref cX_Trapped) (.type "ValueError") = some false)
    {f0 : Addr} {od0 an0 : Option Addr} {sl0 : Array (Option Value)} {oc0 kV0 dc0 pm0 cd0 ct0 : Value}
    (a0 : PySem.W.nsIn K mainGlobals "both_added" = some (some (.ref f0)))
    (l0 : K.lookup f0 = some ⟨oc0, od0, .func (PySem.W.fnOf "both_added" "both_added" (defArgs s_both_added) (defBody s_both_added) (defScope s_both_added) .none kV0 dc0 pm0 an0 cd0 ct0), sl0⟩) (c0 : PySem.W.codeIn K cd0 "both_added" = true) (k0 : PySem.W.keepIn K (.ref f0) = true)
    {f1 : Addr} {od1 an1 : Option Addr} {sl1 : Array (Option Value)} {oc1 kV1 dc1 pm1 cd1 ct1 : Value}
    (a1 : PySem.W.nsIn K mainGlobals "taken_off" = some (some (.ref f1)))
    (l1 : K.lookup f1 = some ⟨oc1, od1, .func (PySem.W.fnOf "taken_off" "taken_off" (defArgs s_taken_off) (defBody s_taken_off) (defScope s_taken_off) .none kV1 dc1 pm1 an1 cd1 ct1), sl1⟩) (c1 : PySem.W.codeIn K cd1 "taken_off" = true) (k1 : PySem.W.keepIn K (.ref f1) = true)
    {f2 : Addr} {od2 an2 : Option Addr} {sl2 : Array (Option Value)} {oc2 kV2 dc2 pm2 cd2 ct2 : Value}
    (a2 : PySem.W.nsIn K mainGlobals "bits_of_both" = some (some (.ref f2)))
    (l2 : K.lookup f2 = some ⟨oc2, od2, .func (PySem.W.fnOf "bits_of_both" "bits_of_both" (defArgs s_bits_of_both) (defBody s_bits_of_both) (defScope s_bits_of_both) .none kV2 dc2 pm2 an2 cd2 ct2), sl2⟩) (c2 : PySem.W.codeIn K cd2 "bits_of_both" = true) (k2 : PySem.W.keepIn K (.ref f2) = true)
    {f3 : Addr} {od3 an3 : Option Addr} {sl3 : Array (Option Value)} {oc3 kV3 dc3 pm3 cd3 ct3 : Value}
    (a3 : PySem.W.nsIn K mainGlobals "bits_of_one" = some (some (.ref f3)))
    (l3 : K.lookup f3 = some ⟨oc3, od3, .func (PySem.W.fnOf "bits_of_one" "bits_of_one" (defArgs s_bits_of_one) (defBody s_bits_of_one) (defScope s_bits_of_one) .none kV3 dc3 pm3 an3 cd3 ct3), sl3⟩) (c3 : PySem.W.codeIn K cd3 "bits_of_one" = true) (k3 : PySem.W.keepIn K (.ref f3) = true)
    {f4 : Addr} {od4 an4 : Option Addr} {sl4 : Array (Option Value)} {oc4 kV4 dc4 pm4 cd4 ct4 : Value}
    (a4 : PySem.W.nsIn K mainGlobals "bits_unlike" = some (some (.ref f4)))
    (l4 : K.lookup f4 = some ⟨oc4, od4, .func (PySem.W.fnOf "bits_unlike" "bits_unlike" (defArgs s_bits_unlike) (defBody s_bits_unlike) (defScope s_bits_unlike) .none kV4 dc4 pm4 an4 cd4 ct4), sl4⟩) (c4 : PySem.W.codeIn K cd4 "bits_unlike" = true) (k4 : PySem.W.keepIn K (.ref f4) = true)
    {f5 : Addr} {od5 an5 : Option Addr} {sl5 : Array (Option Value)} {oc5 kV5 dc5 pm5 cd5 ct5 : Value}
    (a5 : PySem.W.nsIn K mainGlobals "is_less" = some (some (.ref f5)))
    (l5 : K.lookup f5 = some ⟨oc5, od5, .func (PySem.W.fnOf "is_less" "is_less" (defArgs s_is_less) (defBody s_is_less) (defScope s_is_less) .none kV5 dc5 pm5 an5 cd5 ct5), sl5⟩) (c5 : PySem.W.codeIn K cd5 "is_less" = true) (k5 : PySem.W.keepIn K (.ref f5) = true)
    {f6 : Addr} {od6 an6 : Option Addr} {sl6 : Array (Option Value)} {oc6 kV6 dc6 pm6 cd6 ct6 : Value}
    (a6 : PySem.W.nsIn K mainGlobals "is_same" = some (some (.ref f6)))
    (l6 : K.lookup f6 = some ⟨oc6, od6, .func (PySem.W.fnOf "is_same" "is_same" (defArgs s_is_same) (defBody s_is_same) (defScope s_is_same) .none kV6 dc6 pm6 an6 cd6 ct6), sl6⟩) (c6 : PySem.W.codeIn K cd6 "is_same" = true) (k6 : PySem.W.keepIn K (.ref f6) = true)
    {f7 : Addr} {od7 an7 : Option Addr} {sl7 : Array (Option Value)} {oc7 kV7 dc7 pm7 cd7 ct7 : Value}
    (a7 : PySem.W.nsIn K mainGlobals "reckoned" = some (some (.ref f7)))
    (l7 : K.lookup f7 = some ⟨oc7, od7, .func (PySem.W.fnOf "reckoned" "reckoned" (defArgs s_reckoned) (defBody s_reckoned) (defScope s_reckoned) .none kV7 dc7 pm7 an7 cd7 ct7), sl7⟩) (c7 : PySem.W.codeIn K cd7 "reckoned" = true) (k7 : PySem.W.keepIn K (.ref f7) = true)
    {f8 : Addr} {od8 an8 : Option Addr} {sl8 : Array (Option Value)} {oc8 kV8 dc8 pm8 cd8 ct8 : Value}
    (a8 : PySem.W.nsIn K mainGlobals "place_written" = some (some (.ref f8)))
    (l8 : K.lookup f8 = some ⟨oc8, od8, .func (PySem.W.fnOf "place_written" "place_written" (defArgs s_place_written) (defBody s_place_written) (defScope s_place_written) .none kV8 dc8 pm8 an8 cd8 ct8), sl8⟩) (c8 : PySem.W.codeIn K cd8 "place_written" = true) (k8 : PySem.W.keepIn K (.ref f8) = true)
    {f9 : Addr} {od9 an9 : Option Addr} {sl9 : Array (Option Value)} {oc9 kV9 dc9 pm9 cd9 ct9 : Value}
    (a9 : PySem.W.nsIn K mainGlobals "word_at_machines" = some (some (.ref f9)))
    (l9 : K.lookup f9 = some ⟨oc9, od9, .func (PySem.W.fnOf "word_at" "word_at" (defArgs s_word_at) (defBody s_word_at) (defScope s_word_at) .none kV9 dc9 pm9 an9 cd9 ct9), sl9⟩) (c9 : PySem.W.codeIn K cd9 "word_at" = true) (k9 : PySem.W.keepIn K (.ref f9) = true)
    {f10 : Addr} {od10 an10 : Option Addr} {sl10 : Array (Option Value)} {oc10 kV10 dc10 pm10 cd10 ct10 : Value}
    (a10 : PySem.W.nsIn K mainGlobals "word_made" = some (some (.ref f10)))
    (l10 : K.lookup f10 = some ⟨oc10, od10, .func (PySem.W.fnOf "word_made" "word_made" (defArgs s_word_made) (defBody s_word_made) (defScope s_word_made) .none kV10 dc10 pm10 an10 cd10 ct10), sl10⟩) (c10 : PySem.W.codeIn K cd10 "word_made" = true) (k10 : PySem.W.keepIn K (.ref f10) = true)
    {f11 : Addr} {od11 an11 : Option Addr} {sl11 : Array (Option Value)} {oc11 kV11 dc11 pm11 cd11 ct11 : Value}
    (a11 : PySem.W.nsIn K mainGlobals "cell_asked" = some (some (.ref f11)))
    (l11 : K.lookup f11 = some ⟨oc11, od11, .func (PySem.W.fnOf "cell_asked" "cell_asked" (defArgs s_cell_asked) (defBody s_cell_asked) (defScope s_cell_asked) .none kV11 dc11 pm11 an11 cd11 ct11), sl11⟩) (c11 : PySem.W.codeIn K cd11 "cell_asked" = true) (k11 : PySem.W.keepIn K (.ref f11) = true)
    {f12 : Addr} {od12 an12 : Option Addr} {sl12 : Array (Option Value)} {oc12 kV12 dc12 pm12 cd12 ct12 : Value}
    (a12 : PySem.W.nsIn K mainGlobals "row_done" = some (some (.ref f12)))
    (l12 : K.lookup f12 = some ⟨oc12, od12, .func (PySem.W.fnOf "row_done" "row_done" (defArgs s_row_done) (defBody s_row_done) (defScope s_row_done) .none kV12 dc12 pm12 an12 cd12 ct12), sl12⟩) (c12 : PySem.W.codeIn K cd12 "row_done" = true) (k12 : PySem.W.keepIn K (.ref f12) = true)
    {f13 : Addr} {od13 an13 : Option Addr} {sl13 : Array (Option Value)} {oc13 kV13 dc13 pm13 cd13 ct13 : Value}
    (a13 : PySem.W.nsIn K mainGlobals "worth" = some (some (.ref f13)))
    (l13 : K.lookup f13 = some ⟨oc13, od13, .func (PySem.W.fnOf "worth" "worth" (defArgs s_worth) (defBody s_worth) (defScope s_worth) .none kV13 dc13 pm13 an13 cd13 ct13), sl13⟩) (c13 : PySem.W.codeIn K cd13 "worth" = true) (k13 : PySem.W.keepIn K (.ref f13) = true)
    {f14 : Addr} {od14 an14 : Option Addr} {sl14 : Array (Option Value)} {oc14 kV14 dc14 pm14 cd14 ct14 : Value}
    (a14 : PySem.W.nsIn K mainGlobals "parts_behind" = some (some (.ref f14)))
    (l14 : K.lookup f14 = some ⟨oc14, od14, .func (PySem.W.fnOf "parts_behind" "parts_behind" (defArgs s_parts_behind) (defBody s_parts_behind) (defScope s_parts_behind) .none kV14 dc14 pm14 an14 cd14 ct14), sl14⟩) (c14 : PySem.W.codeIn K cd14 "parts_behind" = true) (k14 : PySem.W.keepIn K (.ref f14) = true)
    {f15 : Addr} {od15 an15 : Option Addr} {sl15 : Array (Option Value)} {oc15 kV15 dc15 pm15 cd15 ct15 : Value}
    (a15 : PySem.W.nsIn K mainGlobals "meant" = some (some (.ref f15)))
    (l15 : K.lookup f15 = some ⟨oc15, od15, .func (PySem.W.fnOf "meant" "meant" (defArgs s_meant) (defBody s_meant) (defScope s_meant) .none kV15 dc15 pm15 an15 cd15 ct15), sl15⟩) (c15 : PySem.W.codeIn K cd15 "meant" = true) (k15 : PySem.W.keepIn K (.ref f15) = true)
    {f16 : Addr} {od16 an16 : Option Addr} {sl16 : Array (Option Value)} {oc16 kV16 dc16 pm16 cd16 ct16 : Value}
    (a16 : PySem.W.nsIn K mainGlobals "word_at_programs" = some (some (.ref f16)))
    (l16 : K.lookup f16 = some ⟨oc16, od16, .func (PySem.W.fnOf "word_at" "word_at" (defArgs s_word_at_programs) (defBody s_word_at_programs) (defScope s_word_at_programs) .none kV16 dc16 pm16 an16 cd16 ct16), sl16⟩) (c16 : PySem.W.codeIn K cd16 "word_at" = true) (k16 : PySem.W.keepIn K (.ref f16) = true)
    {f17 : Addr} {od17 an17 : Option Addr} {sl17 : Array (Option Value)} {oc17 kV17 dc17 pm17 cd17 ct17 : Value}
    (a17 : PySem.W.nsIn K mainGlobals "run" = some (some (.ref f17)))
    (l17 : K.lookup f17 = some ⟨oc17, od17, .func (PySem.W.fnOf "run" "run" (defArgs s_run) (defBody s_run) (defScope s_run) .none kV17 dc17 pm17 an17 cd17 ct17), sl17⟩) (c17 : PySem.W.codeIn K cd17 "run" = true) (k17 : PySem.W.keepIn K (.ref f17) = true)
    {f18 : Addr} {od18 an18 : Option Addr} {sl18 : Array (Option Value)} {oc18 kV18 dc18 pm18 cd18 ct18 : Value}
    (a18 : PySem.W.nsIn K mainGlobals "all_words" = some (some (.ref f18)))
    (l18 : K.lookup f18 = some ⟨oc18, od18, .func (PySem.W.fnOf "all_words" "all_words" (defArgs s_all_words) (defBody s_all_words) (defScope s_all_words) .none kV18 dc18 pm18 an18 cd18 ct18), sl18⟩) (c18 : PySem.W.codeIn K cd18 "all_words" = true) (k18 : PySem.W.keepIn K (.ref f18) = true)
    {f19 : Addr} {od19 an19 : Option Addr} {sl19 : Array (Option Value)} {oc19 kV19 dc19 pm19 cd19 ct19 : Value}
    (a19 : PySem.W.nsIn K mainGlobals "does_otherwise" = some (some (.ref f19)))
    (l19 : K.lookup f19 = some ⟨oc19, od19, .func (PySem.W.fnOf "does_otherwise" "does_otherwise" (defArgs s_does_otherwise) (defBody s_does_otherwise) (defScope s_does_otherwise) .none kV19 dc19 pm19 an19 cd19 ct19), sl19⟩) (c19 : PySem.W.codeIn K cd19 "does_otherwise" = true) (k19 : PySem.W.keepIn K (.ref f19) = true)
    {f20 : Addr} {od20 an20 : Option Addr} {sl20 : Array (Option Value)} {oc20 kV20 dc20 pm20 cd20 ct20 : Value}
    (a20 : PySem.W.nsIn K mainGlobals "differs" = some (some (.ref f20)))
    (l20 : K.lookup f20 = some ⟨oc20, od20, .func (PySem.W.fnOf "differs" "differs" (defArgs s_differs) (defBody s_differs) (defScope s_differs) .none kV20 dc20 pm20 an20 cd20 ct20), sl20⟩) (c20 : PySem.W.codeIn K cd20 "differs" = true) (k20 : PySem.W.keepIn K (.ref f20) = true)
    {f21 : Addr} {od21 an21 : Option Addr} {sl21 : Array (Option Value)} {oc21 kV21 dc21 pm21 cd21 ct21 : Value}
    (a21 : PySem.W.nsIn K mainGlobals "_law_bag" = some (some (.ref f21)))
    (l21 : K.lookup f21 = some ⟨oc21, od21, .func (PySem.W.fnOf "_law_bag" "_law_bag" (defArgs s__law_bag) (defBody s__law_bag) (defScope s__law_bag) .none kV21 dc21 pm21 an21 cd21 ct21), sl21⟩) (c21 : PySem.W.codeIn K cd21 "_law_bag" = true) (k21 : PySem.W.keepIn K (.ref f21) = true)
    {f22 : Addr} {od22 an22 : Option Addr} {sl22 : Array (Option Value)} {oc22 kV22 dc22 pm22 cd22 ct22 : Value}
    (a22 : PySem.W.nsIn K mainGlobals "_law_draw" = some (some (.ref f22)))
    (l22 : K.lookup f22 = some ⟨oc22, od22, .func (PySem.W.fnOf "_law_draw" "_law_draw" (defArgs s__law_draw) (defBody s__law_draw) (defScope s__law_draw) .none kV22 dc22 pm22 an22 cd22 ct22), sl22⟩) (c22 : PySem.W.codeIn K cd22 "_law_draw" = true) (k22 : PySem.W.keepIn K (.ref f22) = true)
    {f23 : Addr} {od23 an23 : Option Addr} {sl23 : Array (Option Value)} {oc23 kV23 dc23 pm23 cd23 ct23 : Value}
    (a23 : PySem.W.nsIn K mainGlobals "_law_same" = some (some (.ref f23)))
    (l23 : K.lookup f23 = some ⟨oc23, od23, .func (PySem.W.fnOf "_law_same" "_law_same" (defArgs s__law_same) (defBody s__law_same) (defScope s__law_same) .none kV23 dc23 pm23 an23 cd23 ct23), sl23⟩) (c23 : PySem.W.codeIn K cd23 "_law_same" = true) (k23 : PySem.W.keepIn K (.ref f23) = true)
    {f24 : Addr} {od24 an24 : Option Addr} {sl24 : Array (Option Value)} {oc24 kV24 dc24 pm24 cd24 ct24 : Value}
    (a24 : PySem.W.nsIn K mainGlobals "_law_machine" = some (some (.ref f24)))
    (l24 : K.lookup f24 = some ⟨oc24, od24, .func (PySem.W.fnOf "_law_machine" "_law_machine" (defArgs s__law_machine) (defBody s__law_machine) (defScope s__law_machine) .none kV24 dc24 pm24 an24 cd24 ct24), sl24⟩) (c24 : PySem.W.codeIn K cd24 "_law_machine" = true) (k24 : PySem.W.keepIn K (.ref f24) = true)
    {f25 : Addr} {od25 an25 : Option Addr} {sl25 : Array (Option Value)} {oc25 kV25 dc25 pm25 cd25 ct25 : Value}
    (a25 : PySem.W.nsIn K mainGlobals "_law_term" = some (some (.ref f25)))
    (l25 : K.lookup f25 = some ⟨oc25, od25, .func (PySem.W.fnOf "_law_term" "_law_term" (defArgs s__law_term) (defBody s__law_term) (defScope s__law_term) .none kV25 dc25 pm25 an25 cd25 ct25), sl25⟩) (c25 : PySem.W.codeIn K cd25 "_law_term" = true) (k25 : PySem.W.keepIn K (.ref f25) = true)
    {f26 : Addr} {od26 an26 : Option Addr} {sl26 : Array (Option Value)} {oc26 kV26 dc26 pm26 cd26 ct26 : Value}
    (a26 : PySem.W.nsIn K mainGlobals "_law_case" = some (some (.ref f26)))
    (l26 : K.lookup f26 = some ⟨oc26, od26, .func (PySem.W.fnOf "_law_case" "_law_case" (defArgs s__law_case) (defBody s__law_case) (defScope s__law_case) .none kV26 dc26 pm26 an26 cd26 ct26), sl26⟩) (c26 : PySem.W.codeIn K cd26 "_law_case" = true) (k26 : PySem.W.keepIn K (.ref f26) = true)
    {f27 : Addr} {od27 an27 : Option Addr} {sl27 : Array (Option Value)} {oc27 kV27 dc27 pm27 cd27 ct27 : Value}
    (a27 : PySem.W.nsIn K mainGlobals "_law_refused" = some (some (.ref f27)))
    (l27 : K.lookup f27 = some ⟨oc27, od27, .func (PySem.W.fnOf "_law_refused" "_law_refused" (defArgs s__law_refused) (defBody s__law_refused) (defScope s__law_refused) .none kV27 dc27 pm27 an27 cd27 ct27), sl27⟩) (c27 : PySem.W.codeIn K cd27 "_law_refused" = true) (k27 : PySem.W.keepIn K (.ref f27) = true)
    {f28 : Addr} {od28 an28 : Option Addr} {sl28 : Array (Option Value)} {oc28 kV28 dc28 pm28 cd28 ct28 : Value}
    (a28 : PySem.W.nsIn K mainGlobals "law" = some (some (.ref f28)))
    (l28 : K.lookup f28 = some ⟨oc28, od28, .func (PySem.W.fnOf "law" "law" (defArgs s_law) (defBody s_law) (defScope s_law) .none kV28 dc28 pm28 an28 cd28 ct28), sl28⟩) (c28 : PySem.W.codeIn K cd28 "law" = true) (k28 : PySem.W.keepIn K (.ref f28) = true)
    (z_ValueError : PySem.W.nsIn K mainGlobals "ValueError" = some none)
    (z_all : PySem.W.nsIn K mainGlobals "all" = some none)
    (z_bool : PySem.W.nsIn K mainGlobals "bool" = some none)
    (z_int : PySem.W.nsIn K mainGlobals "int" = some none)
    (z_isinstance : PySem.W.nsIn K mainGlobals "isinstance" = some none)
    (z_len : PySem.W.nsIn K mainGlobals "len" = some none)
    (z_list : PySem.W.nsIn K mainGlobals "list" = some none)
    (z_max : PySem.W.nsIn K mainGlobals "max" = some none)
    (z_min : PySem.W.nsIn K mainGlobals "min" = some none)
    (z_range : PySem.W.nsIn K mainGlobals "range" = some none)
    (z_str : PySem.W.nsIn K mainGlobals "str" = some none)
    (z_tuple : PySem.W.nsIn K mainGlobals "tuple" = some none)
    (z_zip : PySem.W.nsIn K mainGlobals "zip" = some none)
    {d_OPS : Addr} {n_OPS : Nat} {t_OPS_0 t_OPS_1 t_OPS_2 t_OPS_3 t_OPS_4 t_OPS_5 t_OPS_6 : Tok} (y_OPS : PySem.W.nsIn K mainGlobals "OPS" = some (some (.ref d_OPS)))
    (l_OPS : K.lookup d_OPS = some ⟨.type "dict", none, .dict #[⟨PyData.keyHash w.params "add", .str "add" t_OPS_0, .ref f0⟩, ⟨PyData.keyHash w.params "sub", .str "sub" t_OPS_1, .ref f1⟩, ⟨PyData.keyHash w.params "and", .str "and" t_OPS_2, .ref f2⟩, ⟨PyData.keyHash w.params "or", .str "or" t_OPS_3, .ref f3⟩, ⟨PyData.keyHash w.params "xor", .str "xor" t_OPS_4, .ref f4⟩, ⟨PyData.keyHash w.params "less", .str "less" t_OPS_5, .ref f5⟩, ⟨PyData.keyHash w.params "same", .str "same" t_OPS_6, .ref f6⟩] n_OPS, #[]⟩) (w_OPS : (d_OPS == sysModules) = false)
    {t_MOST_BITS : Tok} (y_MOST_BITS : PySem.W.nsIn K mainGlobals "MOST_BITS" = some (some (.int 12 t_MOST_BITS)))
    : ∃ a : Ad, Tx w K mg a ∧ mg "law" = some (.ref a.f_law) ∧ ∀ (s : Shared) (v : Value), BindsTo s a.fd_law ⟨[v], []⟩ [("script", v)] := by
  refine ⟨⟨f0, PySem.W.fnOf "both_added" "both_added" (defArgs s_both_added) (defBody s_both_added) (defScope s_both_added) .none kV0 dc0 pm0 an0 cd0 ct0, f1, PySem.W.fnOf "taken_off" "taken_off" (defArgs s_taken_off) (defBody s_taken_off) (defScope s_taken_off) .none kV1 dc1 pm1 an1 cd1 ct1, f2, PySem.W.fnOf "bits_of_both" "bits_of_both" (defArgs s_bits_of_both) (defBody s_bits_of_both) (defScope s_bits_of_both) .none kV2 dc2 pm2 an2 cd2 ct2, f3, PySem.W.fnOf "bits_of_one" "bits_of_one" (defArgs s_bits_of_one) (defBody s_bits_of_one) (defScope s_bits_of_one) .none kV3 dc3 pm3 an3 cd3 ct3, f4, PySem.W.fnOf "bits_unlike" "bits_unlike" (defArgs s_bits_unlike) (defBody s_bits_unlike) (defScope s_bits_unlike) .none kV4 dc4 pm4 an4 cd4 ct4, f5, PySem.W.fnOf "is_less" "is_less" (defArgs s_is_less) (defBody s_is_less) (defScope s_is_less) .none kV5 dc5 pm5 an5 cd5 ct5, f6, PySem.W.fnOf "is_same" "is_same" (defArgs s_is_same) (defBody s_is_same) (defScope s_is_same) .none kV6 dc6 pm6 an6 cd6 ct6, f7, PySem.W.fnOf "reckoned" "reckoned" (defArgs s_reckoned) (defBody s_reckoned) (defScope s_reckoned) .none kV7 dc7 pm7 an7 cd7 ct7, f8, PySem.W.fnOf "place_written" "place_written" (defArgs s_place_written) (defBody s_place_written) (defScope s_place_written) .none kV8 dc8 pm8 an8 cd8 ct8, f9, PySem.W.fnOf "word_at" "word_at" (defArgs s_word_at) (defBody s_word_at) (defScope s_word_at) .none kV9 dc9 pm9 an9 cd9 ct9, f10, PySem.W.fnOf "word_made" "word_made" (defArgs s_word_made) (defBody s_word_made) (defScope s_word_made) .none kV10 dc10 pm10 an10 cd10 ct10, f11, PySem.W.fnOf "cell_asked" "cell_asked" (defArgs s_cell_asked) (defBody s_cell_asked) (defScope s_cell_asked) .none kV11 dc11 pm11 an11 cd11 ct11, f12, PySem.W.fnOf "row_done" "row_done" (defArgs s_row_done) (defBody s_row_done) (defScope s_row_done) .none kV12 dc12 pm12 an12 cd12 ct12, f13, PySem.W.fnOf "worth" "worth" (defArgs s_worth) (defBody s_worth) (defScope s_worth) .none kV13 dc13 pm13 an13 cd13 ct13, f14, PySem.W.fnOf "parts_behind" "parts_behind" (defArgs s_parts_behind) (defBody s_parts_behind) (defScope s_parts_behind) .none kV14 dc14 pm14 an14 cd14 ct14, f15, PySem.W.fnOf "meant" "meant" (defArgs s_meant) (defBody s_meant) (defScope s_meant) .none kV15 dc15 pm15 an15 cd15 ct15, f16, PySem.W.fnOf "word_at" "word_at" (defArgs s_word_at_programs) (defBody s_word_at_programs) (defScope s_word_at_programs) .none kV16 dc16 pm16 an16 cd16 ct16, f17, PySem.W.fnOf "run" "run" (defArgs s_run) (defBody s_run) (defScope s_run) .none kV17 dc17 pm17 an17 cd17 ct17, f18, PySem.W.fnOf "all_words" "all_words" (defArgs s_all_words) (defBody s_all_words) (defScope s_all_words) .none kV18 dc18 pm18 an18 cd18 ct18, f19, PySem.W.fnOf "does_otherwise" "does_otherwise" (defArgs s_does_otherwise) (defBody s_does_otherwise) (defScope s_does_otherwise) .none kV19 dc19 pm19 an19 cd19 ct19, f20, PySem.W.fnOf "differs" "differs" (defArgs s_differs) (defBody s_differs) (defScope s_differs) .none kV20 dc20 pm20 an20 cd20 ct20, f21, PySem.W.fnOf "_law_bag" "_law_bag" (defArgs s__law_bag) (defBody s__law_bag) (defScope s__law_bag) .none kV21 dc21 pm21 an21 cd21 ct21, f22, PySem.W.fnOf "_law_draw" "_law_draw" (defArgs s__law_draw) (defBody s__law_draw) (defScope s__law_draw) .none kV22 dc22 pm22 an22 cd22 ct22, f23, PySem.W.fnOf "_law_same" "_law_same" (defArgs s__law_same) (defBody s__law_same) (defScope s__law_same) .none kV23 dc23 pm23 an23 cd23 ct23, f24, PySem.W.fnOf "_law_machine" "_law_machine" (defArgs s__law_machine) (defBody s__law_machine) (defScope s__law_machine) .none kV24 dc24 pm24 an24 cd24 ct24, f25, PySem.W.fnOf "_law_term" "_law_term" (defArgs s__law_term) (defBody s__law_term) (defScope s__law_term) .none kV25 dc25 pm25 an25 cd25 ct25, f26, PySem.W.fnOf "_law_case" "_law_case" (defArgs s__law_case) (defBody s__law_case) (defScope s__law_case) .none kV26 dc26 pm26 an26 cd26 ct26, f27, PySem.W.fnOf "_law_refused" "_law_refused" (defArgs s__law_refused) (defBody s__law_refused) (defScope s__law_refused) .none kV27 dc27 pm27 an27 cd27 ct27, f28, PySem.W.fnOf "law" "law" (defArgs s_law) (defBody s_law) (defScope s_law) .none kV28 dc28 pm28 an28 cd28 ct28, cX_LoftError, cX_TooMany, cX_Trapped, d_OPS⟩, ?_, PySem.W.mg_of X G a28, fun s v => .of_eq rfl⟩
  exact ⟨fun_mk (st := s_both_added) l0 c0 k0, (fun_mk (st := s_both_added) l0 c0 k0).binds (fun _ _ _ _ _ _ us hl => match us, hl with | [_, _], _ => rfl), PySem.W.mg_of X G a0,
    fun_mk (st := s_taken_off) l1 c1 k1, (fun_mk (st := s_taken_off) l1 c1 k1).binds (fun _ _ _ _ _ _ us hl => match us, hl with | [_, _], _ => rfl), PySem.W.mg_of X G a1,
    fun_mk (st := s_bits_of_both) l2 c2 k2, (fun_mk (st := s_bits_of_both) l2 c2 k2).binds (fun _ _ _ _ _ _ us hl => match us, hl with | [_, _], _ => rfl), PySem.W.mg_of X G a2,
    fun_mk (st := s_bits_of_one) l3 c3 k3, (fun_mk (st := s_bits_of_one) l3 c3 k3).binds (fun _ _ _ _ _ _ us hl => match us, hl with | [_, _], _ => rfl), PySem.W.mg_of X G a3,
    fun_mk (st := s_bits_unlike) l4 c4 k4, (fun_mk (st := s_bits_unlike) l4 c4 k4).binds (fun _ _ _ _ _ _ us hl => match us, hl with | [_, _], _ => rfl), PySem.W.mg_of X G a4,
    fun_mk (st := s_is_less) l5 c5 k5, (fun_mk (st := s_is_less) l5 c5 k5).binds (fun _ _ _ _ _ _ us hl => match us, hl with | [_, _], _ => rfl), PySem.W.mg_of X G a5,
    fun_mk (st := s_is_same) l6 c6 k6, (fun_mk (st := s_is_same) l6 c6 k6).binds (fun _ _ _ _ _ _ us hl => match us, hl with | [_, _], _ => rfl), PySem.W.mg_of X G a6,
    fun_mk (st := s_reckoned) l7 c7 k7, (fun_mk (st := s_reckoned) l7 c7 k7).binds (fun _ _ _ _ _ _ us hl => match us, hl with | [_, _, _, _], _ => rfl), PySem.W.mg_of X G a7,
    fun_mk (st := s_place_written) l8 c8 k8, (fun_mk (st := s_place_written) l8 c8 k8).binds (fun _ _ _ _ _ _ us hl => match us, hl with | [_], _ => rfl), PySem.W.mg_of X G a8,
    fun_mk (st := s_word_at) l9 c9 k9, (fun_mk (st := s_word_at) l9 c9 k9).binds (fun _ _ _ _ _ _ us hl => match us, hl with | [_, _, _], _ => rfl), PySem.W.mg_of X G a9,
    fun_mk (st := s_word_made) l10 c10 k10, (fun_mk (st := s_word_made) l10 c10 k10).binds (fun _ _ _ _ _ _ us hl => match us, hl with | [_, _, _], _ => rfl), PySem.W.mg_of X G a10,
    fun_mk (st := s_cell_asked) l11 c11 k11, (fun_mk (st := s_cell_asked) l11 c11 k11).binds (fun _ _ _ _ _ _ us hl => match us, hl with | [_, _, _], _ => rfl), PySem.W.mg_of X G a11,
    fun_mk (st := s_row_done) l12 c12 k12, (fun_mk (st := s_row_done) l12 c12 k12).binds (fun _ _ _ _ _ _ us hl => match us, hl with | [_, _, _], _ => rfl), PySem.W.mg_of X G a12,
    fun_mk (st := s_worth) l13 c13 k13, (fun_mk (st := s_worth) l13 c13 k13).binds (fun _ _ _ _ _ _ us hl => match us, hl with | [_, _, _], _ => rfl), PySem.W.mg_of X G a13,
    fun_mk (st := s_parts_behind) l14 c14 k14, (fun_mk (st := s_parts_behind) l14 c14 k14).binds (fun _ _ _ _ _ _ us hl => match us, hl with | [_, _, _], _ => rfl), PySem.W.mg_of X G a14,
    fun_mk (st := s_meant) l15 c15 k15, (fun_mk (st := s_meant) l15 c15 k15).binds (fun _ _ _ _ _ _ us hl => match us, hl with | [_, _, _], _ => rfl), PySem.W.mg_of X G a15,
    fun_mk (st := s_word_at_programs) l16 c16 k16, (fun_mk (st := s_word_at_programs) l16 c16 k16).binds (fun _ _ _ _ _ _ us hl => match us, hl with | [_, _, _], _ => rfl), PySem.W.mg_of X G a16,
    fun_mk (st := s_run) l17 c17 k17, (fun_mk (st := s_run) l17 c17 k17).binds (fun _ _ _ _ _ _ us hl => match us, hl with | [_, _, _], _ => rfl), PySem.W.mg_of X G a17,
    fun_mk (st := s_all_words) l18 c18 k18, (fun_mk (st := s_all_words) l18 c18 k18).binds (fun _ _ _ _ _ _ us hl => match us, hl with | [_, _], _ => rfl), PySem.W.mg_of X G a18,
    fun_mk (st := s_does_otherwise) l19 c19 k19, (fun_mk (st := s_does_otherwise) l19 c19 k19).binds (fun _ _ _ _ _ _ us hl => match us, hl with | [_, _, _, _], _ => rfl), PySem.W.mg_of X G a19,
    fun_mk (st := s_differs) l20 c20 k20, (fun_mk (st := s_differs) l20 c20 k20).binds (fun _ _ _ _ _ _ us hl => match us, hl with | [_, _, _], _ => rfl), PySem.W.mg_of X G a20,
    fun_mk (st := s__law_bag) l21 c21 k21, (fun_mk (st := s__law_bag) l21 c21 k21).binds (fun _ _ _ _ _ _ us hl => match us, hl with | [_, _], _ => rfl), PySem.W.mg_of X G a21,
    fun_mk (st := s__law_draw) l22 c22 k22, (fun_mk (st := s__law_draw) l22 c22 k22).binds (fun _ _ _ _ _ _ us hl => match us, hl with | [_, _], _ => rfl), PySem.W.mg_of X G a22,
    fun_mk (st := s__law_same) l23 c23 k23, (fun_mk (st := s__law_same) l23 c23 k23).binds (fun _ _ _ _ _ _ us hl => match us, hl with | [_, _], _ => rfl), PySem.W.mg_of X G a23,
    fun_mk (st := s__law_machine) l24 c24 k24, (fun_mk (st := s__law_machine) l24 c24 k24).binds (fun _ _ _ _ _ _ us hl => match us, hl with | [_, _], _ => rfl), PySem.W.mg_of X G a24,
    fun_mk (st := s__law_term) l25 c25 k25, (fun_mk (st := s__law_term) l25 c25 k25).binds (fun _ _ _ _ _ _ us hl => match us, hl with | [_, _], _ => rfl), PySem.W.mg_of X G a25,
    fun_mk (st := s__law_case) l26 c26 k26, (fun_mk (st := s__law_case) l26 c26 k26).binds (fun _ _ _ _ _ _ us hl => match us, hl with | [_, _], _ => rfl), PySem.W.mg_of X G a26,
    fun_mk (st := s__law_refused) l27 c27 k27, (fun_mk (st := s__law_refused) l27 c27 k27).binds (fun _ _ _ _ _ _ us hl => match us, hl with | [_, _, _], _ => rfl), PySem.W.mg_of X G a27,
    fun_mk (st := s_law) l28 c28 k28, (fun_mk (st := s_law) l28 c28 k28).binds (fun _ _ _ _ _ _ us hl => match us, hl with | [_], _ => rfl), PySem.W.mg_of X G a28,
    PySem.W.mg_none_of X G z_ValueError,
    PySem.W.mg_none_of X G z_all,
    PySem.W.mg_none_of X G z_bool,
    PySem.W.mg_none_of X G z_int,
    PySem.W.mg_none_of X G z_isinstance,
    PySem.W.mg_none_of X G z_len,
    PySem.W.mg_none_of X G z_list,
    PySem.W.mg_none_of X G z_max,
    PySem.W.mg_none_of X G z_min,
    PySem.W.mg_none_of X G z_range,
    PySem.W.mg_none_of X G z_str,
    PySem.W.mg_none_of X G z_tuple,
    PySem.W.mg_none_of X G z_zip,
    PySem.W.mg_of X G aX_LoftError, kX_LoftError, bX_LoftError, tX_LoftError, hX_LoftError,
    PySem.W.mg_of X G aX_TooMany, kX_TooMany, bX_TooMany, tX_TooMany, hX_TooMany,
    xX_TooMany,
    PySem.W.mg_of X G aX_Trapped, kX_Trapped, bX_Trapped, tX_Trapped, hX_Trapped,
    xX_Trapped,
    PySem.W.exm_ref bX_LoftError hX_LoftError tX_LoftError sX_TooMany_LoftError,
    PySem.W.exm_ref bX_Trapped hX_Trapped tX_Trapped sX_TooMany_Trapped,
    PySem.W.exm_ref bX_LoftError hX_LoftError tX_LoftError sX_Trapped_LoftError,
    PySem.W.exm_ref bX_Trapped hX_Trapped tX_Trapped sX_Trapped_Trapped,
    ⟨eg_TooMany, ek_TooMany, bX_TooMany, hX_TooMany, ea_TooMany, en, et, em_TooMany⟩,
    ⟨eg_Trapped, ek_Trapped, bX_Trapped, hX_Trapped, ea_Trapped, en, et, em_Trapped⟩,
    kit_yes hX_TooMany tX_TooMany eT_TooMany_TooMany,
    kit_no hX_TooMany tX_TooMany eT_Trapped_TooMany es_Trapped,
    kit_noneC hX_TooMany tX_TooMany eN_TooMany,
    kit_tyB (by decide +kernel) eB_TooMany_ValueError,
    kit_tyB (by decide +kernel) eB_Trapped_ValueError,
    ⟨_, PySem.W.mg_of X G y_OPS, kc_ref⟩,
    kd_mk [("add", t_OPS_0, .ref f0), ("sub", t_OPS_1, .ref f1), ("and", t_OPS_2, .ref f2), ("or", t_OPS_3, .ref f3), ("xor", t_OPS_4, .ref f4), ("less", t_OPS_5, .ref f5), ("same", t_OPS_6, .ref f6)] l_OPS w_OPS (.cons kc_ref (.cons kc_ref (.cons kc_ref (.cons kc_ref (.cons kc_ref (.cons kc_ref (.cons kc_ref .nil))))))),
    ⟨_, PySem.W.mg_of X G y_MOST_BITS⟩⟩
end K68
open PySem PySem.W PyProof.Rows
set_option maxHeartbeats 0 in
theorem PySem.Challenge.cw_steploft_k68_which_words_differ_holds : PySem.Challenge.rw_steploft_k68_which_words_differ.Holds := by
  w_on; o_law; k_head; (case hw => w_witness2)
  k_fill
  refine L2.walk_ofB (l := PySem.Challenge.rw_steploft_k68_which_words_differ) (n := 63) (k := 23) (x := "script") (CX := fun _ => L2.CX0) (sp := fun w => K68.spV_law _) rfl (by decide) rfl ⟨rfl, by decide, by decide⟩ (fun w h Y => PySem.W.kIn_of Y) ?F (fun _ H a ns hl hb _ hS => K68.spV_at hl hb hS) (fun _ _ _ _ _ h => h)
  case F =>
    intro w mg fa h KX G hmg
    have z := DL.at_K KX (fun K' => ∃ a : K68.Ad, K68.Tx w K' mg a ∧ mg "law" = some (.ref a.f_law) ∧ ∀ (s : Shared) (v : Value), BindsTo s a.fd_law ⟨[v], []⟩ [("script", v)]) (by
      refine' K68.all_mk KX G ?aX_LoftError ?kX_LoftError ?bX_LoftError ?tX_LoftError ?hX_LoftError ?aX_TooMany ?kX_TooMany ?bX_TooMany ?tX_TooMany ?hX_TooMany ?xX_TooMany ?aX_Trapped ?kX_Trapped ?bX_Trapped ?tX_Trapped ?hX_Trapped ?xX_Trapped ?sX_TooMany_LoftError ?sX_TooMany_Trapped ?sX_Trapped_LoftError ?sX_Trapped_Trapped ?en ?et ?eg_TooMany ?ek_TooMany ?ea_TooMany ?em_TooMany ?es_TooMany ?eg_Trapped ?ek_Trapped ?ea_Trapped ?em_Trapped ?es_Trapped ?eT_TooMany_TooMany ?eT_Trapped_TooMany ?eN_TooMany ?eB_TooMany_ValueError ?eB_Trapped_ValueError ?a0 ?l0 ?c0 ?k0 ?a1 ?l1 ?c1 ?k1 ?a2 ?l2 ?c2 ?k2 ?a3 ?l3 ?c3 ?k3 ?a4 ?l4 ?c4 ?k4 ?a5 ?l5 ?c5 ?k5 ?a6 ?l6 ?c6 ?k6 ?a7 ?l7 ?c7 ?k7 ?a8 ?l8 ?c8 ?k8 ?a9 ?l9 ?c9 ?k9 ?a10 ?l10 ?c10 ?k10 ?a11 ?l11 ?c11 ?k11 ?a12 ?l12 ?c12 ?k12 ?a13 ?l13 ?c13 ?k13 ?a14 ?l14 ?c14 ?k14 ?a15 ?l15 ?c15 ?k15 ?a16 ?l16 ?c16 ?k16 ?a17 ?l17 ?c17 ?k17 ?a18 ?l18 ?c18 ?k18 ?a19 ?l19 ?c19 ?k19 ?a20 ?l20 ?c20 ?k20 ?a21 ?l21 ?c21 ?k21 ?a22 ?l22 ?c22 ?k22 ?a23 ?l23 ?c23 ?k23 ?a24 ?l24 ?c24 ?k24 ?a25 ?l25 ?c25 ?k25 ?a26 ?l26 ?c26 ?k26 ?a27 ?l27 ?c27 ?k27 ?a28 ?l28 ?c28 ?k28 ?z_ValueError ?z_all ?z_bool ?z_int ?z_isinstance ?z_len ?z_list ?z_max ?z_min ?z_range ?z_str ?z_tuple ?z_zip ?y_OPS ?l_OPS ?w_OPS ?y_MOST_BITS
      (case aX_LoftError => k_is); (case kX_LoftError => k_is); (case bX_LoftError => k_is); (case tX_LoftError => k_is); (case hX_LoftError => k_is); (case aX_TooMany => k_is); (case kX_TooMany => k_is); (case bX_TooMany => k_is); (case tX_TooMany => k_is); (case hX_TooMany => k_is); (case xX_TooMany => k_exc); (case aX_Trapped => k_is); (case kX_Trapped => k_is); (case bX_Trapped => k_is); (case tX_Trapped => k_is); (case hX_Trapped => k_is); (case xX_Trapped => k_exc); (case sX_TooMany_LoftError => k_is); (case sX_TooMany_Trapped => k_is); (case sX_Trapped_LoftError => k_is); (case sX_Trapped_Trapped => k_is); (case en => k_is); (case et => k_is); (case eg_TooMany => k_is); (case ek_TooMany => k_is); (case ea_TooMany => k_is); (case em_TooMany => first | rfl | k_is); (case es_TooMany => first | rfl | k_is); (case eg_Trapped => k_is); (case ek_Trapped => k_is); (case ea_Trapped => k_is); (case em_Trapped => first | rfl | k_is); (case es_Trapped => first | rfl | k_is); (case eT_TooMany_TooMany => first | rfl | k_is); (case eT_Trapped_TooMany => first | rfl | k_is); (case eN_TooMany => k_is); (case eB_TooMany_ValueError => first | rfl | k_is); (case eB_Trapped_ValueError => first | rfl | k_is); (case a0 => k_is); (case l0 => k_is); (case c0 => k_is); (case k0 => k_is); (case a1 => k_is); (case l1 => k_is); (case c1 => k_is); (case k1 => k_is); (case a2 => k_is); (case l2 => k_is); (case c2 => k_is); (case k2 => k_is); (case a3 => k_is); (case l3 => k_is); (case c3 => k_is); (case k3 => k_is); (case a4 => k_is); (case l4 => k_is); (case c4 => k_is); (case k4 => k_is); (case a5 => k_is); (case l5 => k_is); (case c5 => k_is); (case k5 => k_is); (case a6 => k_is); (case l6 => k_is); (case c6 => k_is); (case k6 => k_is); (case a7 => k_is); (case l7 => k_is); (case c7 => k_is); (case k7 => k_is); (case a8 => k_is); (case l8 => k_is); (case c8 => k_is); (case k8 => k_is); (case a9 => k_is); (case l9 => k_is); (case c9 => k_is); (case k9 => k_is); (case a10 => k_is); (case l10 => k_is); (case c10 => k_is); (case k10 => k_is); (case a11 => k_is); (case l11 => k_is); (case c11 => k_is); (case k11 => k_is); (case a12 => k_is); (case l12 => k_is); (case c12 => k_is); (case k12 => k_is); (case a13 => k_is); (case l13 => k_is); (case c13 => k_is); (case k13 => k_is); (case a14 => k_is); (case l14 => k_is); (case c14 => k_is); (case k14 => k_is); (case a15 => k_is); (case l15 => k_is); (case c15 => k_is); (case k15 => k_is); (case a16 => k_is); (case l16 => k_is); (case c16 => k_is); (case k16 => k_is); (case a17 => k_is); (case l17 => k_is); (case c17 => k_is); (case k17 => k_is); (case a18 => k_is); (case l18 => k_is); (case c18 => k_is); (case k18 => k_is); (case a19 => k_is); (case l19 => k_is); (case c19 => k_is); (case k19 => k_is); (case a20 => k_is); (case l20 => k_is); (case c20 => k_is); (case k20 => k_is); (case a21 => k_is); (case l21 => k_is); (case c21 => k_is); (case k21 => k_is); (case a22 => k_is); (case l22 => k_is); (case c22 => k_is); (case k22 => k_is); (case a23 => k_is); (case l23 => k_is); (case c23 => k_is); (case k23 => k_is); (case a24 => k_is); (case l24 => k_is); (case c24 => k_is); (case k24 => k_is); (case a25 => k_is); (case l25 => k_is); (case c25 => k_is); (case k25 => k_is); (case a26 => k_is); (case l26 => k_is); (case c26 => k_is); (case k26 => k_is); (case a27 => k_is); (case l27 => k_is); (case c27 => k_is); (case k27 => k_is); (case a28 => k_is); (case l28 => k_is); (case c28 => k_is); (case k28 => k_is); (case z_ValueError => k_is); (case z_all => k_is); (case z_bool => k_is); (case z_int => k_is); (case z_isinstance => k_is); (case z_len => k_is); (case z_list => k_is); (case z_max => k_is); (case z_min => k_is); (case z_range => k_is); (case z_str => k_is); (case z_tuple => k_is); (case z_zip => k_is); (case y_OPS => k_is); (case l_OPS => k_is); (case w_OPS => rfl); (case y_MOST_BITS => k_is))
    obtain ⟨a, T, hm, hb⟩ := z
    have e := hmg.symm.trans hm
    cases e
    exact ⟨_, hb, fun base _ _ => K68.ok_law T⟩




