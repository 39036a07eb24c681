import PyProof.Rows.All
import Wide.All
import OpenK.AllK
import Wide.FinOn
import HandS.ForMost
import HandS.Wide
import HandS.WideBits
import HandS.TupAny
import HandS.IsInst
import HandS.Style
import HandS.Strs
import HandS.Zip
import HandS.EndBits
import KE.KUnpackStar
import HandS.More
import KE.GoesNew
import KE.GoesMore
import KE.GoesEnum
import PyProof.EqKinds
import PyProof.FactsAll.dict_1
import PyProof.FactsAll.subtypes_3
import PyProof.FactsAll.subtypes_4
import PyProof.Rows.EqBoolInt
import KE.SortKeyed
import HandS.SortKw
import HandS.Deep
import KE.DataFind
import KE.DataCmp
import HandS.CallLocal
import PyProof.FitsInt
import HandS.RaiseMore
import PyProof.TupleKey
import HandS.TupSets
import PyProof.SumAny
import HandS.NoneIn
import HandS.Conv
import KE.DatumOrd
import PyProof.MaxThree
import KE.KDictZip
import HandS.Small
import PyProof.Rows.TupAdd
import KE.SortData
import KE.KDictList
import KE.KDictPairs
import HandS.ExcCtx
import HandS.ExcOwn
import HandS.TryOnly
import HandS.WordsExc
import HandS.DictComp
import KE.KAsSuite
import HandS.TryMany
import HandS.ExcIs
import HandS.ExcValue
import HandS.TupLen
import KE.KDictCopyH
import HandS.TupMul
import HandS.FStr
import HandS.Finally
import HandS.Defaults
import PySem.Challenge.RW_steploft_k19_meanings_written_and_read
set_option Elab.async false
set_option linter.all false
set_option maxRecDepth 100000
set_option maxHeartbeats 4000000
namespace DL
open PySem PySem.Spec PyProof.Rows L2
set_option autoImplicit false

/-! ### data -/
/-- data: lst is a list that nobody changes any more; ref a thing that G knows (or that doesn't matter); any: some thing of this type -/
inductive D where
  | non | bl (b : Bool) | int (i : Int) | str (x : Str) | ty (n : String) | ref (a : Addr) | any (n : String) | nt (zs : List Str) | tup (ds : List D) | lst (ds : List D)
/-- what stands at an address, by data -/
inductive GO where
  | lst (ds : List D) | dK (kvs : List (Key × D)) | dT (kvs : List (List Key × D)) | ins (C dx : Addr) (fs : List (Str × D)) | dX (ok : List (D × D) → Prop) (hs : D → Int) (kvs : List (D × D)) | ex (cls : Value) (fs : List (Str × D))
abbrev Gp := Addr → Option GO
def gup (G : Gp) (a : Addr) (o : GO) : Gp := fun b => if b = a then some o else G b
theorem gup_same {G : Gp} {a : Addr} {o : GO} : gup G a o a = some o := by unfold gup; rw [if_pos rfl]
theorem gup_ne {G : Gp} {a b : Addr} {o : GO} (h : b ≠ a) : gup G a o b = G b := by unfold gup; rw [if_neg h]
theorem gup_gup {G : Gp} {a : Addr} {o u : GO} : gup (gup G a o) a u = gup G a u := by
  funext b; unfold gup; split <;> rfl
theorem gne {G : Gp} {a b : Addr} {o : GO} (h : G a = some o) (h' : G b = none) : a ≠ b := by
  intro e; subst e; rw [h] at h'; cases h'
def knd : HO → String
  | .lst _ => "list" | .tup _ => "tuple" | .dK _ => "dict" | .dT _ => "dict" | .set _ _ => "set" | .ins _ _ _ => "ins" | .frz _ (.lst _) => "list" | .frz _ (.tup _) => "tuple" | .frz _ (.dK _) => "dict" | _ => ""
abbrev Ns := Addr → Prop
def nadd (N : Ns) (p : Addr) : Ns := fun q => q = p ∨ N q
def ndel (N : Ns) (p : Addr) : Ns := fun q => q ≠ p ∧ N q
/-- a list that nobody changes: N tells the addresses of which this is not said -/
def LstAt (K : PySem.W.Frag) (H : Hp) (N : Ns) (a : Addr) (xs : List V) : Prop :=
  (H a = some (.lst xs) ∧ ¬ N a) ∨ (∃ o, H a = some (.frz o (.lst xs))) ∨ ∃ (o : Obj) (its : Array Value) (n : Nat), K.lookup a = some o ∧ o.cls = .type "list" ∧ o.dict = none ∧ o.data = .seq its n ∧ its.size ≤ sizeLine ∧ Vals xs its.toList
theorem LstAt.sq {K : PySem.W.Frag} {H : Hp} {N : Ns} {a : Addr} {xs : List V} (h : LstAt K H N a xs) : SqL K H a xs := by
  rcases h with h | h | h
  · exact .inl (.inl h.1)
  · exact .inl (.inr h)
  · exact .inr h
/-- a tuple of texts of which it is known that it has no dict (its methods may be called) -/
def NtAt (K : PySem.W.Frag) (H : Hp) (p : Addr) (zs : List Str) : Prop :=
  (∃ o, H p = some (.frz o (.tup (zs.map V.str))) ∧ o.cls = .type "tuple" ∧ o.dict = none) ∨ ∃ (o : Obj) (its : Array Value) (n : Nat), K.lookup p = some o ∧ o.cls = .type "tuple" ∧ o.dict = none ∧ o.data = .seq its n ∧ its.size ≤ sizeLine ∧ Vals (zs.map V.str) its.toList
theorem NtAt.sq {K : PySem.W.Frag} {H : Hp} {p : Addr} {zs : List Str} (h : NtAt K H p zs) : SqT K H p (zs.map V.str) := by
  rcases h with ⟨o, h, _⟩ | ⟨o, its, n, h1, h2, h3, h4, h5, h6⟩
  · exact .inl (.inr ⟨o, h⟩)
  · exact .inr ⟨o, its, n, h1, h2, h4, h5, h6⟩
mutual
def RD (K : PySem.W.Frag) (H : Hp) (N : Ns) : D → V → Prop
  | .non, v => v = .non
  | .bl b, v => v = .bl b
  | .int i, v => v = .int i
  | .str x, v => v = .str x
  | .ty n, v => v = .ty n
  | .ref a, v => v = .ref a
  | .any n, v => ∃ a u, v = .ref a ∧ H a = some u ∧ knd u = n
  | .nt zs, v => ∃ p, v = .ref p ∧ NtAt K H p zs
  | .tup ds, v => ∃ p vs, v = .ref p ∧ SqT K H p vs ∧ RDs K H N ds vs
  | .lst ds, v => ∃ p vs, v = .ref p ∧ LstAt K H N p vs ∧ RDs K H N ds vs
def RDs (K : PySem.W.Frag) (H : Hp) (N : Ns) : List D → List V → Prop
  | [], vs => vs = []
  | d :: ds, vs => ∃ v r, vs = v :: r ∧ RD K H N d v ∧ RDs K H N ds r
end
structure KLe (H H' : Hp) : Prop where
  tup : ∀ p xs, H p = some (.tup xs) → H' p = some (.tup xs)
  ktup : ∀ p o xs, H p = some (.frz o (.tup xs)) → H' p = some (.frz o (.tup xs))
  klst : ∀ p o xs, H p = some (.frz o (.lst xs)) → H' p = some (.frz o (.lst xs))
  kind : ∀ p u, H p = some u → ∃ u', H' p = some u' ∧ knd u' = knd u
  kxd : ∀ p fs, H p = some (.xd fs) → H' p = some (.xd fs)
theorem KLe.refl (H : Hp) : KLe H H := ⟨fun _ _ h => h, fun _ _ _ h => h, fun _ _ _ h => h, fun _ u h => ⟨u, h, rfl⟩, fun _ _ h => h⟩
theorem KLe.trans {H H1 H2 : Hp} (a : KLe H H1) (b : KLe H1 H2) : KLe H H2 :=
  ⟨fun p xs h => b.tup p xs (a.tup p xs h), fun p o xs h => b.ktup p o xs (a.ktup p o xs h), fun p o xs h => b.klst p o xs (a.klst p o xs h), fun p u h => by
    obtain ⟨u1, h1, e1⟩ := a.kind p u h
    obtain ⟨u2, h2, e2⟩ := b.kind p u1 h1
    exact ⟨u2, h2, e2.trans e1⟩, fun p fs h => b.kxd p fs (a.kxd p fs h)⟩
theorem KLe.fresh {H : Hp} {p : Addr} {o : HO} (h : H p = none) : KLe H (upd H p o) :=
  ⟨fun q xs e => by rw [upd_ne (ne_of_none e h)]; exact e, fun q _ xs e => by rw [upd_ne (ne_of_none e h)]; exact e, fun q _ xs e => by rw [upd_ne (ne_of_none e h)]; exact e, fun q u e => ⟨u, by rw [upd_ne (ne_of_none e h)]; exact e, rfl⟩, fun q fs e => by rw [upd_ne (ne_of_none e h)]; exact e⟩
def mutH : HO → Bool
  | .lst _ => true | .dK _ => true | .dT _ => true | .ins _ _ _ => true | .set _ _ => true | .ext _ => true | _ => false
theorem KLe.write {H : Hp} {p : Addr} {o u : HO} (h : H p = some u) (m : mutH u = true) (k : knd o = knd u) : KLe H (upd H p o) := by
  have ne : ∀ q x, H q = some x → mutH x = false → q ≠ p := fun q x e n z => by
    subst z; rw [h] at e; cases e; rw [m] at n; cases n
  refine ⟨fun q xs e => ?_, fun q _ xs e => ?_, fun q _ xs e => ?_, fun q x e => ?_, fun q fs e => by rw [upd_ne (ne q _ e rfl)]; exact e⟩
  · rw [upd_ne (ne q _ e rfl)]; exact e
  · rw [upd_ne (ne q _ e rfl)]; exact e
  · rw [upd_ne (ne q _ e rfl)]; exact e
  · by_cases z : q = p
    · subst z; rw [h] at e; cases e; exact ⟨o, upd_same, k⟩
    · exact ⟨x, by rw [upd_ne z]; exact e, rfl⟩
/-- data stay data -/
structure Kp (H : Hp) (N : Ns) (H' : Hp) (N' : Ns) : Prop where
  kle : KLe H H'
  nv : ∀ p xs, H p = some (.lst xs) → ¬ N p → H' p = some (.lst xs) ∧ ¬ N' p
theorem Kp.refl (H : Hp) (N : Ns) : Kp H N H N := ⟨KLe.refl H, fun _ _ h n => ⟨h, n⟩⟩
theorem Kp.trans {H H1 H2 : Hp} {N N1 N2 : Ns} (a : Kp H N H1 N1) (b : Kp H1 N1 H2 N2) : Kp H N H2 N2 :=
  ⟨a.kle.trans b.kle, fun p u h n => by obtain ⟨h1, n1⟩ := a.nv p u h n; exact b.nv p u h1 n1⟩
theorem SqT.le {K : PySem.W.Frag} {H H' : Hp} {a : Addr} {xs : List V} (l : KLe H H') (h : SqT K H a xs) : SqT K H' a xs := by
  rcases h with (h | ⟨o, h⟩) | h
  · exact .inl (.inl (l.tup _ _ h))
  · exact .inl (.inr ⟨o, l.ktup _ _ _ h⟩)
  · exact .inr h
theorem LstAt.le {K : PySem.W.Frag} {H H' : Hp} {N N' : Ns} {a : Addr} {xs : List V} (l : Kp H N H' N') (h : LstAt K H N a xs) : LstAt K H' N' a xs := by
  rcases h with ⟨h, n⟩ | ⟨o, h⟩ | h
  · exact .inl (l.nv _ _ h n)
  · exact .inr (.inl ⟨o, l.kle.klst _ _ _ h⟩)
  · exact .inr (.inr h)
mutual
theorem RD.le {K : PySem.W.Frag} {H H' : Hp} {N N' : Ns} (l : Kp H N H' N') : ∀ {d : D} {v : V}, RD K H N d v → RD K H' N' d v
  | .non, _, h => by simpa only [RD] using h
  | .bl _, _, h => by simpa only [RD] using h
  | .int _, _, h => by simpa only [RD] using h
  | .str _, _, h => by simpa only [RD] using h
  | .ty _, _, h => by simpa only [RD] using h
  | .ref _, _, h => by simpa only [RD] using h
  | .any n, v, h => by
    simp only [RD] at h ⊢
    obtain ⟨a, u, e, hu, k⟩ := h
    obtain ⟨u', hu', k'⟩ := l.kle.kind a u hu
    exact ⟨a, u', e, hu', k'.trans k⟩
  | .nt zs, v, h => by
    simp only [RD] at h ⊢
    obtain ⟨p, e, s⟩ := h
    refine ⟨p, e, ?_⟩
    rcases s with ⟨o, s, r⟩ | s
    · exact .inl ⟨o, l.kle.ktup _ _ _ s, r⟩
    · exact .inr s
  | .tup ds, v, h => by
    simp only [RD] at h ⊢
    obtain ⟨p, vs, e, s, r⟩ := h
    exact ⟨p, vs, e, SqT.le l.kle s, RDs.le l r⟩
  | .lst ds, v, h => by
    simp only [RD] at h ⊢
    obtain ⟨p, vs, e, s, r⟩ := h
    exact ⟨p, vs, e, LstAt.le l s, RDs.le l r⟩
theorem RDs.le {K : PySem.W.Frag} {H H' : Hp} {N N' : Ns} (l : Kp H N H' N') : ∀ {ds : List D} {vs : List V}, RDs K H N ds vs → RDs K H' N' ds vs
  | [], _, h => by simpa only [RDs] using h
  | d :: ds, _, h => by
    simp only [RDs] at h ⊢
    obtain ⟨v, r, e, h1, h2⟩ := h
    exact ⟨v, r, e, RD.le l h1, RDs.le l h2⟩
end
section
variable {K : PySem.W.Frag} {H : Hp} {N : Ns}
theorem RD.non : RD K H N .non .non := by simp only [RD]
theorem RD.bl (b : Bool) : RD K H N (.bl b) (.bl b) := by simp only [RD]
theorem RD.int (i : Int) : RD K H N (.int i) (.int i) := by simp only [RD]
theorem RD.str (x : Str) : RD K H N (.str x) (.str x) := by simp only [RD]
theorem RD.ty (n : String) : RD K H N (.ty n) (.ty n) := by simp only [RD]
theorem RD.ref (a : Addr) : RD K H N (.ref a) (.ref a) := by simp only [RD]
theorem RD.tup {ds : List D} {p : Addr} {vs : List V} (s : SqT K H p vs) (r : RDs K H N ds vs) : RD K H N (.tup ds) (.ref p) := by simp only [RD]; exact ⟨p, vs, rfl, s, r⟩
theorem RD.lst {ds : List D} {p : Addr} {vs : List V} (s : LstAt K H N p vs) (r : RDs K H N ds vs) : RD K H N (.lst ds) (.ref p) := by simp only [RD]; exact ⟨p, vs, rfl, s, r⟩
theorem RD.of_non {v : V} (h : RD K H N .non v) : v = .non := by simpa only [RD] using h
theorem RD.of_bl {b : Bool} {v : V} (h : RD K H N (.bl b) v) : v = .bl b := by simpa only [RD] using h
theorem RD.of_int {i : Int} {v : V} (h : RD K H N (.int i) v) : v = .int i := by simpa only [RD] using h
theorem RD.of_str {i : Str} {v : V} (h : RD K H N (.str i) v) : v = .str i := by simpa only [RD] using h
theorem RD.of_ty {i : String} {v : V} (h : RD K H N (.ty i) v) : v = .ty i := by simpa only [RD] using h
theorem RD.of_ref {i : Addr} {v : V} (h : RD K H N (.ref i) v) : v = .ref i := by simpa only [RD] using h
theorem RD.of_any {n : String} {v : V} (h : RD K H N (.any n) v) : ∃ a u, v = .ref a ∧ H a = some u ∧ knd u = n := by simpa only [RD] using h
theorem RD.of_tup {ds : List D} {v : V} (h : RD K H N (.tup ds) v) : ∃ p vs, v = .ref p ∧ SqT K H p vs ∧ RDs K H N ds vs := by simpa only [RD] using h
theorem RD.of_nt {zs : List Str} {v : V} (h : RD K H N (.nt zs) v) : ∃ p, v = .ref p ∧ NtAt K H p zs := by simpa only [RD] using h
theorem RD.of_lst {ds : List D} {v : V} (h : RD K H N (.lst ds) v) : ∃ p vs, v = .ref p ∧ LstAt K H N p vs ∧ RDs K H N ds vs := by simpa only [RD] using h
theorem RDs.nil : RDs K H N [] [] := by simp only [RDs]
theorem RDs.cons {d : D} {ds : List D} {v : V} {vs : List V} (h : RD K H N d v) (t : RDs K H N ds vs) : RDs K H N (d :: ds) (v :: vs) := by simp only [RDs]; exact ⟨v, vs, rfl, h, t⟩
theorem RDs.of_nil {vs : List V} (h : RDs K H N [] vs) : vs = [] := by simpa only [RDs] using h
theorem RDs.of_cons {d : D} {ds : List D} {vs : List V} (h : RDs K H N (d :: ds) vs) : ∃ v r, vs = v :: r ∧ RD K H N d v ∧ RDs K H N ds r := by simpa only [RDs] using h
theorem RDs.length : ∀ {ds : List D} {vs : List V}, RDs K H N ds vs → ds.length = vs.length
  | [], _, h => by rw [h.of_nil]; rfl
  | d :: ds, _, h => by
    obtain ⟨v, r, rfl, _, h2⟩ := h.of_cons
    rw [List.length_cons, List.length_cons, RDs.length h2]
theorem RDs.get : ∀ {ds : List D} {vs : List V} {i : Nat} {d : D}, RDs K H N ds vs → ds[i]? = some d → ∃ v, vs[i]? = some v ∧ RD K H N d v
  | [], _, _, _, _, e => by simp at e
  | d :: ds, _, 0, _, h, e => by
    obtain ⟨v, r, rfl, h1, _⟩ := h.of_cons
    simp at e; subst e
    exact ⟨v, rfl, h1⟩
  | d :: ds, _, i + 1, x, h, e => by
    obtain ⟨v, r, rfl, _, h2⟩ := h.of_cons
    obtain ⟨u, h3, h4⟩ := RDs.get (i := i) (d := x) h2 (by simpa using e)
    exact ⟨u, by simpa using h3, h4⟩
theorem RDs.append : ∀ {ds es : List D} {vs us : List V}, RDs K H N ds vs → RDs K H N es us → RDs K H N (ds ++ es) (vs ++ us)
  | [], _, _, _, h, t => by rw [h.of_nil]; exact t
  | d :: ds, _, _, _, h, t => by
    obtain ⟨v, r, rfl, h1, h2⟩ := h.of_cons
    exact RDs.cons h1 (RDs.append h2 t)
theorem RDs.take : ∀ {ds : List D} {vs : List V} (n : Nat), RDs K H N ds vs → RDs K H N (ds.take n) (vs.take n)
  | _, _, 0, _ => by simpa using RDs.nil
  | [], _, n + 1, h => by rw [h.of_nil]; exact RDs.nil
  | d :: ds, _, n + 1, h => by
    obtain ⟨v, r, rfl, h1, h2⟩ := h.of_cons
    exact RDs.cons h1 (RDs.take n h2)
theorem RDs.drop : ∀ {ds : List D} {vs : List V} (n : Nat), RDs K H N ds vs → RDs K H N (ds.drop n) (vs.drop n)
  | _, _, 0, h => h
  | [], _, n + 1, h => by rw [h.of_nil]; exact RDs.nil
  | d :: ds, _, n + 1, h => by
    obtain ⟨v, r, rfl, h1, h2⟩ := h.of_cons
    exact RDs.drop n h2
theorem RDs.reverse : ∀ {ds : List D} {vs : List V}, RDs K H N ds vs → RDs K H N ds.reverse vs.reverse
  | [], _, h => by rw [h.of_nil]; exact RDs.nil
  | d :: ds, _, h => by
    obtain ⟨v, r, rfl, h1, h2⟩ := h.of_cons
    rw [List.reverse_cons, List.reverse_cons]
    exact RDs.append (RDs.reverse h2) (RDs.cons h1 RDs.nil)
theorem RDs.set {d : D} {v : V} (h1 : RD K H N d v) : ∀ {ds : List D} {vs : List V} (i : Nat), RDs K H N ds vs → RDs K H N (ds.set i d) (vs.set i v)
  | [], _, _, h => by rw [h.of_nil]; exact RDs.nil
  | d' :: ds, _, 0, h => by
    obtain ⟨v, r, rfl, _, h2⟩ := h.of_cons
    exact RDs.cons h1 h2
  | d' :: ds, _, i + 1, h => by
    obtain ⟨v, r, rfl, h3, h2⟩ := h.of_cons
    exact RDs.cons h3 (RDs.set h1 i h2)
theorem RDs.eraseIdx : ∀ {ds : List D} {vs : List V} (i : Nat), RDs K H N ds vs → RDs K H N (ds.eraseIdx i) (vs.eraseIdx i)
  | [], _, _, h => by rw [h.of_nil]; exact RDs.nil
  | d' :: ds, _, 0, h => by
    obtain ⟨v, r, rfl, _, h2⟩ := h.of_cons
    exact h2
  | d' :: ds, _, i + 1, h => by
    obtain ⟨v, r, rfl, h3, h2⟩ := h.of_cons
    exact RDs.cons h3 (RDs.eraseIdx i h2)
theorem RDs.dropLast {ds : List D} {vs : List V} (h : RDs K H N ds vs) : RDs K H N ds.dropLast vs.dropLast := by
  rw [List.dropLast_eq_take, List.dropLast_eq_take, h.length]; exact RDs.take _ h
theorem RDs.of_strs : ∀ {ns : List Str} {vs : List V}, RDs K H N (ns.map D.str) vs → vs = ns.map V.str
  | [], _, h => h.of_nil
  | n :: ns, _, h => by
    obtain ⟨v, r, rfl, h1, h2⟩ := RDs.of_cons h
    rw [h1.of_str, RDs.of_strs h2]; rfl
theorem RDs.of_bls : ∀ {ns : List Bool} {vs : List V}, RDs K H N (ns.map D.bl) vs → vs = ns.map V.bl
  | [], _, h => h.of_nil
  | n :: ns, _, h => by
    obtain ⟨v, r, rfl, h1, h2⟩ := RDs.of_cons h
    rw [h1.of_bl, RDs.of_bls h2]; rfl
theorem RDs.strs : ∀ (ns : List Str), RDs K H N (ns.map D.str) (ns.map V.str)
  | [] => RDs.nil
  | n :: ns => RDs.cons (RD.str n) (RDs.strs ns)
end

theorem RD.nt_tup {K : PySem.W.Frag} {H : Hp} {N : Ns} {zs : List Str} {v : V} (h : RD K H N (.nt zs) v) : RD K H N (.tup (zs.map .str)) v := by
  obtain ⟨p, rfl, s⟩ := h.of_nt
  exact RD.tup s.sq (RDs.strs zs)
/-! ### what stands at addresses -/
def RKV {κ : Type} (K : PySem.W.Frag) (H : Hp) (N : Ns) : List (κ × D) → List (κ × V) → Prop := Paired fun p q => p.1 = q.1 ∧ RD K H N p.2 q.2
theorem RKV.le {κ : Type} {K : PySem.W.Frag} {H H' : Hp} {N N' : Ns} (l : Kp H N H' N') {a : List (κ × D)} {b : List (κ × V)} (h : RKV K H N a b) : RKV K H' N' a b := Paired.mapP h fun _ _ z => ⟨z.1, z.2.le l⟩
/-- a dict by its entries: hash, key, value -/
def DxIs (h : Heap) (a : Addr) (kvs : List (Int × V × V)) : Prop := kvs.length ≤ sizeLine ∧ (a == sysModules) = false ∧ ∃ o es ep, h.get? a = some o ∧ o.ExactDict ∧ o.data = .dict es ep ∧ ep = kvs.length ∧ Paired (fun (p : Int × V × V) (e : DictEntry) => e.hash = p.1 ∧ RelV p.2.1 e.key ∧ RelV p.2.2 e.val) kvs es.toList
def DxO (a : Addr) (kvs : List (Int × V × V)) : HO := .ext fun h => DxIs h a kvs
def RXV (K : PySem.W.Frag) (H : Hp) (N : Ns) (hs : D → Int) : List (D × D) → List (Int × V × V) → Prop := Paired fun p q => q.1 = hs p.1 ∧ RD K H N p.1 q.2.1 ∧ RD K H N p.2 q.2.2
theorem RXV.le {K : PySem.W.Frag} {H H' : Hp} {N N' : Ns} {hs : D → Int} (l : Kp H N H' N') {a : List (D × D)} {b : List (Int × V × V)} (h : RXV K H N hs a b) : RXV K H' N' hs a b := Paired.mapP h fun _ _ z => ⟨z.1, z.2.1.le l, z.2.2.le l⟩
/-- the dict of an exception's own fields -/
def XdOf (K : PySem.W.Frag) (H : Hp) (N : Ns) : Option Addr → List (Str × D) → Prop
  | none, fs => fs = []
  | some p, fs => fs ≠ [] ∧ ∃ fs', H p = some (.xd fs') ∧ RKV K H N fs fs'
theorem XdOf.le {K : PySem.W.Frag} {H H' : Hp} {N N' : Ns} (l : Kp H N H' N') {d : Option Addr} {fs : List (Str × D)} (h : XdOf K H N d fs) : XdOf K H' N' d fs := by
  cases d with
  | none => exact h
  | some p => obtain ⟨ne, fs', e, r⟩ := h; exact ⟨ne, fs', l.kle.kxd p fs' e, r.le l⟩
/-- an exception at rest -/
def ExK (cls : Value) (d : Option Addr) (a : Addr) : HO := .ext fun h => ∃ (oe : Obj) (vs : Array Value), h.get? a = some oe ∧ oe.cls = cls ∧ oe.dict = d ∧ oe.data = .fields vs
def RO (K : PySem.W.Frag) (H : Hp) (N : Ns) (a : Addr) : GO → Prop
  | .lst ds => ∃ vs, H a = some (.lst vs) ∧ RDs K H N ds vs
  | .dK kvs => ∃ kvs', H a = some (.dK kvs') ∧ RKV K H N kvs kvs'
  | .dT kvs => ∃ kvs', H a = some (.dT kvs') ∧ RKV K H N kvs kvs'
  | .ins C dx fs => ∃ fs', H a = some (.ins C dx fs') ∧ RKV K H N fs fs'
  | .dX ok hs kvs => ∃ kvs', H a = some (DxO a kvs') ∧ RXV K H N hs kvs kvs' ∧ ok kvs
  | .ex cls fs => ∃ d, H a = some (ExK cls d a) ∧ XdOf K H N d fs
def RelG (K : PySem.W.Frag) (H : Hp) (N : Ns) (G : Gp) : Prop := ∀ a o, G a = some o → N a ∧ RO K H N a o
theorem RO.here {K : PySem.W.Frag} {H : Hp} {N : Ns} {a : Addr} {o : GO} (h : RO K H N a o) : ∃ u, H a = some u ∧ mutH u = true := by
  cases o with
  | lst ds => obtain ⟨_, h, _⟩ := h; exact ⟨_, h, rfl⟩
  | dK ds => obtain ⟨_, h, _⟩ := h; exact ⟨_, h, rfl⟩
  | dT ds => obtain ⟨_, h, _⟩ := h; exact ⟨_, h, rfl⟩
  | ins C dx ds => obtain ⟨_, h, _⟩ := h; exact ⟨_, h, rfl⟩
  | dX ok hs kvs => obtain ⟨_, h, _⟩ := h; exact ⟨_, h, rfl⟩
  | ex cls fs => obtain ⟨_, h, _⟩ := h; exact ⟨_, h, rfl⟩
theorem RO.le {K : PySem.W.Frag} {H H' : Hp} {N N' : Ns} {a : Addr} {o : GO} (l : Kp H N H' N') (e : H' a = H a) (h : RO K H N a o) : RO K H' N' a o := by
  cases o with
  | lst ds => obtain ⟨vs, h, r⟩ := h; exact ⟨vs, e.trans h, r.le l⟩
  | dK ds => obtain ⟨vs, h, r⟩ := h; exact ⟨vs, e.trans h, r.le l⟩
  | dT ds => obtain ⟨vs, h, r⟩ := h; exact ⟨vs, e.trans h, r.le l⟩
  | ins C dx ds => obtain ⟨vs, h, r⟩ := h; exact ⟨vs, e.trans h, r.le l⟩
  | dX ok hs kvs => obtain ⟨vs, h, r, z⟩ := h; exact ⟨vs, e.trans h, r.le l, z⟩
  | ex cls fs => obtain ⟨d, h, r⟩ := h; exact ⟨d, e.trans h, r.le l⟩
theorem RelG.free {K : PySem.W.Frag} {H : Hp} {N : Ns} {G : Gp} (r : RelG K H N G) {p : Addr} (h : H p = none) : G p = none := by
  cases e : G p with
  | none => rfl
  | some o =>
    obtain ⟨u, h', _⟩ := (r p o e).2.here
    rw [h] at h'; cases h'
/-- a step -/
structure Stp (K : PySem.W.Frag) (H : Hp) (N : Ns) (G : Gp) (H' : Hp) (N' : Ns) (G' : Gp) : Prop where
  kp : Kp H N H' N'
  fr : ∀ p u, H p = some u → G p = none → H' p = some u ∧ G' p = none ∧ (N p → N' p)
  rel : RelG K H' N' G'
theorem Stp.refl {K : PySem.W.Frag} {H : Hp} {N : Ns} {G : Gp} (r : RelG K H N G) : Stp K H N G H N G := ⟨Kp.refl H N, fun _ _ h n => ⟨h, n, id⟩, r⟩
theorem Stp.trans {K : PySem.W.Frag} {H H1 H2 : Hp} {N N1 N2 : Ns} {G G1 G2 : Gp} (a : Stp K H N G H1 N1 G1) (b : Stp K H1 N1 G1 H2 N2 G2) : Stp K H N G H2 N2 G2 :=
  ⟨a.kp.trans b.kp, fun p u h n => by
    obtain ⟨h1, n1, m1⟩ := a.fr p u h n
    obtain ⟨h2, n2, m2⟩ := b.fr p u h1 n1
    exact ⟨h2, n2, fun z => m2 (m1 z)⟩, b.rel⟩
def Sub (G G' : Gp) : Prop := ∀ a o, G a = some o → G' a = some o
theorem Sub.refl (G : Gp) : Sub G G := fun _ _ h => h
theorem Sub.trans {G G1 G2 : Gp} (a : Sub G G1) (b : Sub G1 G2) : Sub G G2 := fun p o h => b p o (a p o h)
theorem Sub.new {G : Gp} {p : Addr} {o : GO} (h : G p = none) : Sub G (gup G p o) := fun a u e => by rw [gup_ne (gne e h)]; exact e
theorem Sub.news {G G' : Gp} {p : Addr} {o : GO} (s : Sub G G') (h : G' p = none) : Sub G (gup G' p o) := s.trans (Sub.new h)
theorem Sub.nn {G G' : Gp} (s : Sub G G') {p : Addr} (h : G' p = none) : G p = none := by
  cases e : G p with
  | none => rfl
  | some o => rw [s p o e] at h; cases h
theorem RelG.sub {K : PySem.W.Frag} {H : Hp} {N : Ns} {G G' : Gp} (r : RelG K H N G') (s : Sub G G') : Stp K H N G' H N G := ⟨Kp.refl H N, fun p u h n => ⟨h, s.nn n, id⟩, fun a o e => r a o (s a o e)⟩
theorem Kp.new {H : Hp} {N : Ns} {p : Addr} {u : HO} (h : H p = none) : Kp H N (upd H p u) (nadd N p) :=
  ⟨KLe.fresh h, fun q x e n => ⟨by rw [upd_ne (ne_of_none e h)]; exact e, fun z => z.elim (ne_of_none e h) n⟩⟩
theorem Kp.new0 {H : Hp} {N : Ns} {p : Addr} {u : HO} (h : H p = none) : Kp H N (upd H p u) N :=
  ⟨KLe.fresh h, fun q x e n => ⟨by rw [upd_ne (ne_of_none e h)]; exact e, n⟩⟩
theorem Kp.newV {H : Hp} {N : Ns} {p : Addr} {u : HO} (h : H p = none) : Kp H N (upd H p u) (ndel N p) :=
  ⟨KLe.fresh h, fun q x e n => ⟨by rw [upd_ne (ne_of_none e h)]; exact e, fun z => n z.2⟩⟩
/-- a new object that is known -/
theorem Stp.new {K : PySem.W.Frag} {H : Hp} {N : Ns} {G : Gp} {p : Addr} {u : HO} {o : GO} (r : RelG K H N G) (h : H p = none) (ho : RO K (upd H p u) (nadd N p) p o) : Stp K H N G (upd H p u) (nadd N p) (gup G p o) := by
  refine ⟨Kp.new h, fun q x e n => ⟨by rw [upd_ne (ne_of_none e h)]; exact e, by rw [gup_ne (ne_of_none e h)]; exact n, .inr⟩, fun a o' e => ?_⟩
  by_cases z : a = p
  · subst z; rw [gup_same] at e; cases e; exact ⟨.inl rfl, ho⟩
  · rw [gup_ne z] at e
    exact ⟨.inr (r a o' e).1, (r a o' e).2.le (Kp.new h) (upd_ne z)⟩
/-- a new object that is not known -/
theorem Stp.new0 {K : PySem.W.Frag} {H : Hp} {N : Ns} {G : Gp} {p : Addr} {u : HO} (r : RelG K H N G) (h : H p = none) : Stp K H N G (upd H p u) N G := by
  refine ⟨Kp.new0 h, fun q x e n => ⟨by rw [upd_ne (ne_of_none e h)]; exact e, n, id⟩, fun a o' e => ?_⟩
  obtain ⟨x, hx, _⟩ := (r a o' e).2.here
  exact ⟨(r a o' e).1, (r a o' e).2.le (Kp.new0 h) (upd_ne (ne_of_none hx h))⟩
/-- a new object that nobody changes -/
theorem Stp.newV {K : PySem.W.Frag} {H : Hp} {N : Ns} {G : Gp} {p : Addr} {u : HO} (r : RelG K H N G) (h : H p = none) : Stp K H N G (upd H p u) (ndel N p) G := by
  refine ⟨Kp.newV h, fun q x e n => ⟨by rw [upd_ne (ne_of_none e h)]; exact e, n, fun z => ⟨ne_of_none e h, z⟩⟩, fun a o' e => ?_⟩
  obtain ⟨x, hx, _⟩ := (r a o' e).2.here
  exact ⟨⟨ne_of_none hx h, (r a o' e).1⟩, (r a o' e).2.le (Kp.newV h) (upd_ne (ne_of_none hx h))⟩
theorem Kp.write {H : Hp} {N : Ns} {p : Addr} {u u0 : HO} (hN : N p) (h : H p = some u0) (m : mutH u0 = true) (k : knd u = knd u0) : Kp H N (upd H p u) N :=
  ⟨KLe.write h m k, fun q x e n => ⟨by rw [upd_ne (fun z => n (by rw [z]; exact hN))]; exact e, n⟩⟩
/-- a known object is changed -/
theorem Stp.write {K : PySem.W.Frag} {H : Hp} {N : Ns} {G : Gp} {p : Addr} {u : HO} {o o0 : GO} {u0 : HO} (r : RelG K H N G) (hG : G p = some o0) (h : H p = some u0) (m : mutH u0 = true) (k : knd u = knd u0) (ho : RO K (upd H p u) N p o) :
    Stp K H N G (upd H p u) N (gup G p o) := by
  have hN := (r p o0 hG).1
  refine ⟨Kp.write hN h m k, fun q x e n => ?_, fun a o' e => ?_⟩
  · have ne : q ≠ p := fun z => by subst z; rw [hG] at n; cases n
    exact ⟨by rw [upd_ne ne]; exact e, by rw [gup_ne ne]; exact n, id⟩
  · by_cases z : a = p
    · subst z; rw [gup_same] at e; cases e; exact ⟨hN, ho⟩
    · rw [gup_ne z] at e
      exact ⟨(r a o' e).1, (r a o' e).2.le (Kp.write hN h m k) (upd_ne z)⟩
/-- a young object that is not known is changed -/
theorem Stp.poke {K : PySem.W.Frag} {H0 H : Hp} {N0 N : Ns} {G0 G : Gp} {p : Addr} {u u0 : HO} (s : Stp K H0 N0 G0 H N G) (h0 : H0 p = none) (h : H p = some u0) (n : G p = none) (hN : N p) (m : mutH u0 = true) (k : knd u = knd u0) :
    Stp K H0 N0 G0 (upd H p u) N G := by
  have kw := Kp.write hN h m k
  refine ⟨s.kp.trans kw, fun q x e nq => ?_, fun a o' e => ?_⟩
  · obtain ⟨h1, n1, m1⟩ := s.fr q x e nq
    exact ⟨by rw [upd_ne (ne_of_none e h0)]; exact h1, n1, m1⟩
  · have ne : a ≠ p := fun z => by subst z; rw [n] at e; cases e
    exact ⟨(s.rel a o' e).1, (s.rel a o' e).2.le kw (upd_ne ne)⟩
/-- a young object gets known -/
theorem Stp.know {K : PySem.W.Frag} {H0 H : Hp} {N0 N : Ns} {G0 G : Gp} {p : Addr} {o : GO} (s : Stp K H0 N0 G0 H N G) (h0 : H0 p = none) (hN : N p) (ho : RO K H N p o) : Stp K H0 N0 G0 H N (gup G p o) := by
  refine ⟨s.kp, fun q x e nq => ?_, fun a o' e => ?_⟩
  · obtain ⟨h1, n1, m1⟩ := s.fr q x e nq
    exact ⟨h1, by rw [gup_ne (ne_of_none e h0)]; exact n1, m1⟩
  · by_cases z : a = p
    · subst z; rw [gup_same] at e; cases e; exact ⟨hN, ho⟩
    · rw [gup_ne z] at e
      exact s.rel a o' e
/-- an object that G doesn't know is from now on never changed: it was young, or G knew it -/
theorem Kp.calm {H : Hp} {N : Ns} {p : Addr} : Kp H N H (ndel N p) := ⟨KLe.refl H, fun q x e n => ⟨e, fun z => n z.2⟩⟩
theorem Stp.calm {K : PySem.W.Frag} {H0 H : Hp} {N0 N : Ns} {G0 G : Gp} {p : Addr} (s : Stp K H0 N0 G0 H N G) (h0 : H0 p = none ∨ G0 p ≠ none) (n : G p = none) : Stp K H0 N0 G0 H (ndel N p) G := by
  refine ⟨s.kp.trans Kp.calm, fun q x e nq => ?_, fun a o' e => ?_⟩
  · obtain ⟨h1, n1, m1⟩ := s.fr q x e nq
    refine ⟨h1, n1, fun z => ⟨fun w => ?_, m1 z⟩⟩
    subst w
    rcases h0 with h0 | h0
    · rw [h0] at e; cases e
    · exact h0 nq
  · have ne : a ≠ p := fun z => by subst z; rw [n] at e; cases e
    exact ⟨⟨ne, (s.rel a o' e).1⟩, (s.rel a o' e).2.le Kp.calm rfl⟩

/-! ### slots -/
abbrev Sd := List (Option D)
def RSt (K : PySem.W.Frag) (H : Hp) (N : Ns) (σ : Sd) (τ : L2.St) : Prop := σ.length = τ.length ∧ ∀ (i : Nat) (d : D), σ[i]? = some (some d) → ∃ v, τ[i]? = some (some v) ∧ RD K H N d v
theorem RSt.le {K : PySem.W.Frag} {H H' : Hp} {N N' : Ns} {σ : Sd} {τ : L2.St} (l : Kp H N H' N') (h : RSt K H N σ τ) : RSt K H' N' σ τ := ⟨h.1, fun i d e => by obtain ⟨v, h1, h2⟩ := h.2 i d e; exact ⟨v, h1, h2.le l⟩⟩
theorem RSt.set {K : PySem.W.Frag} {H : Hp} {N : Ns} {σ : Sd} {τ : L2.St} {d : D} {v : V} (h : RSt K H N σ τ) (r : RD K H N d v) (i : Nat) : RSt K H N (σ.set i (some d)) (τ.set i (some v)) := by
  refine ⟨by rw [List.length_set, List.length_set]; exact h.1, fun j x e => ?_⟩
  by_cases hj : i = j
  · subst hj
    rw [List.getElem?_set] at e ⊢
    simp only [if_true] at e ⊢
    rw [h.1] at e
    split at e
    · rename_i hlt
      cases e
      rw [if_pos hlt]
      exact ⟨v, rfl, r⟩
    · cases e
  · rw [List.getElem?_set_ne hj] at e ⊢
    exact h.2 j x e

/-! ### transformers by data -/
abbrev DK := D → Gp → Prop
abbrev DE := Sd → Gp → DK → Prop
abbrev DT := Sd → Gp → (Bool → Gp → Prop) → Prop
abbrev DA := Sd → Gp → (List D → Gp → Prop) → Prop
structure DEnds where
  nx : Sd → Gp → Prop
  rt : DK
  bk : Sd → Gp → Prop := fun _ _ => False
  ct : Sd → Gp → Prop := fun _ _ => False
abbrev DS := DEnds → Sd → Gp → Prop
abbrev DG := D → Sd → Gp → (Sd → Gp → Prop) → Prop
abbrev DR2 := D → D → Gp → DK → Prop
abbrev DR1 := D → Gp → DK → Prop
abbrev DRn := List D → Gp → DK → Prop
/-- a continuation by values holds where the one by data does -/
def UpQ (K : PySem.W.Frag) (H : Hp) (N : Ns) (G : Gp) (R : DK) (Q : VK) : Prop := ∀ d G' N' v H', R d G' → Stp K H N G H' N' G' → RD K H' N' d v → Q v H'
def up (K : PySem.W.Frag) (t : DE) : TE := fun τ H Q => ∃ σ G N R, RSt K H N σ τ ∧ RelG K H N G ∧ t σ G R ∧ UpQ K H N G R Q
def upT (K : PySem.W.Frag) (t : DT) : TT := fun τ H Q => ∃ σ G N R, RSt K H N σ τ ∧ RelG K H N G ∧ t σ G R ∧ ∀ b G' N' H', R b G' → Stp K H N G H' N' G' → Q b H'
def upA (K : PySem.W.Frag) (t : DA) : TA := fun τ H Q => ∃ σ G N R, RSt K H N σ τ ∧ RelG K H N G ∧ t σ G R ∧ ∀ ds G' N' vs H', R ds G' → Stp K H N G H' N' G' → RDs K H' N' ds vs → Q vs H'
structure UpE (K : PySem.W.Frag) (H : Hp) (N : Ns) (G : Gp) (E : DEnds) (D : Ends) : Prop where
  nx : ∀ σ' G' N' τ' H', E.nx σ' G' → Stp K H N G H' N' G' → RSt K H' N' σ' τ' → D.nx τ' H'
  rt : UpQ K H N G E.rt D.rt
  bk : ∀ σ' G' N' τ' H', E.bk σ' G' → Stp K H N G H' N' G' → RSt K H' N' σ' τ' → D.bk τ' H'
  ct : ∀ σ' G' N' τ' H', E.ct σ' G' → Stp K H N G H' N' G' → RSt K H' N' σ' τ' → D.ct τ' H'
def upS (K : PySem.W.Frag) (t : DS) : TS := fun D τ H => ∃ σ G N E, RSt K H N σ τ ∧ RelG K H N G ∧ t E σ G ∧ UpE K H N G E D
def upG (K : PySem.W.Frag) (g : DG) : TG := fun v τ H Q => ∃ d σ G N R, RD K H N d v ∧ RSt K H N σ τ ∧ RelG K H N G ∧ g d σ G R ∧ ∀ σ' G' N' τ' H', R σ' G' → Stp K H N G H' N' G' → RSt K H' N' σ' τ' → Q τ' H'
def upR2 (K : PySem.W.Frag) (r : DR2) : R2 := fun x y H Q => ∃ c d G N R, RD K H N c x ∧ RD K H N d y ∧ RelG K H N G ∧ r c d G R ∧ UpQ K H N G R Q
def upR1 (K : PySem.W.Frag) (r : DR1) : V → Hp → VK → Prop := fun x H Q => ∃ c G N R, RD K H N c x ∧ RelG K H N G ∧ r c G R ∧ UpQ K H N G R Q
def upRn (K : PySem.W.Frag) (r : DRn) : List V → Hp → VK → Prop := fun xs H Q => ∃ cs G N R, RDs K H N cs xs ∧ RelG K H N G ∧ r cs G R ∧ UpQ K H N G R Q
def upM (K : PySem.W.Frag) (r : D → List D → Gp → DK → Prop) : V → List V → Hp → VK → Prop := fun x xs H Q => ∃ c cs G N R, RD K H N c x ∧ RDs K H N cs xs ∧ RelG K H N G ∧ r c cs G R ∧ UpQ K H N G R Q
theorem UpQ.le {K : PySem.W.Frag} {H H1 : Hp} {N N1 : Ns} {G G1 : Gp} {R : DK} {Q : VK} (q : UpQ K H N G R Q) (s : Stp K H N G H1 N1 G1) : UpQ K H1 N1 G1 R Q := fun d G' N' v H' r s' rd => q d G' N' v H' r (s.trans s') rd
theorem UpQ.at {K : PySem.W.Frag} {H : Hp} {N : Ns} {G : Gp} {R : DK} {Q : VK} (q : UpQ K H N G R Q) (r : RelG K H N G) {d : D} {v : V} (h : R d G) (rd : RD K H N d v) : Q v H := q d G N v H h (Stp.refl r) rd

def QE (X : Cx) (e : Expr) (t : DE) : Prop := PE X e (up X.K t)
def QT (X : Cx) (e : Expr) (t : DT) : Prop := PT X e (upT X.K t)
def QW (X : Cx) (e : Expr) (t : DT) : Prop := PW X e (upT X.K t)
def QA (X : Cx) (es : List Expr) (t : DA) : Prop := PA X es (upA X.K t)
def QS (X : Cx) (st : Stmt) (t : DS) : Prop := PS X st (upS X.K t)
def QSs (X : Cx) (st : List Stmt) (t : DS) : Prop := PSs X st (upS X.K t)
def QG (X : Cx) (tg : Expr) (g : DG) : Prop := PG X tg (upG X.K g)
def OpD (X : Cx) (f : Value → Value → Sem Value) (r : DR2) : Prop := OpR X f (upR2 X.K r)
def UnD (X : Cx) (f : Value → Sem Value) (r : DR1) : Prop := UnR X f (upR1 X.K r)
def CallD (X : Cx) (f : Value) (r : DRn) : Prop := CallR X f (upRn X.K r)
def IxD (X : Cx) (r : DR2) : Prop := IxR X (upR2 X.K r)

theorem pe_mono {X : Cx} {e : Expr} {t t' : TE} (h : PE X e t) (i : ∀ τ H Q, t' τ H Q → t τ H Q) : PE X e t' := ⟨fun pins s σ H Q I q => h.run pins s σ H Q I (i σ H Q q)⟩
theorem pt_mono {X : Cx} {e : Expr} {t t' : TT} (h : PT X e t) (i : ∀ τ H Q, t' τ H Q → t τ H Q) : PT X e t' := ⟨fun pins s σ H Q I q => h.run pins s σ H Q I (i σ H Q q)⟩
theorem pw_mono {X : Cx} {e : Expr} {t t' : TT} (h : PW X e t) (i : ∀ τ H Q, t' τ H Q → t τ H Q) : PW X e t' := ⟨fun wh pins s σ H Q I q => h.run wh pins s σ H Q I (i σ H Q q)⟩
theorem pa_mono {X : Cx} {e : List Expr} {t t' : TA} (h : PA X e t) (i : ∀ τ H Q, t' τ H Q → t τ H Q) : PA X e t' := ⟨fun pos pins s σ H Q I q => h.run pos pins s σ H Q I (i σ H Q q)⟩
theorem ps_mono {X : Cx} {e : Stmt} {t t' : TS} (h : PS X e t) (i : ∀ D τ H, t' D τ H → t D τ H) : PS X e t' := ⟨fun pins s σ H D I q => h.run pins s σ H D I (i D σ H q)⟩
theorem pss_mono {X : Cx} {e : List Stmt} {t t' : TS} (h : PSs X e t) (i : ∀ D τ H, t' D τ H → t D τ H) : PSs X e t' := ⟨fun pins s σ H D I q => h.run pins s σ H D I (i D σ H q)⟩
theorem pg_mono {X : Cx} {e : Expr} {t t' : TG} (h : PG X e t) (i : ∀ v τ H Q, t' v τ H Q → t v τ H Q) : PG X e t' := ⟨fun pins s σ H v u Q I r q => h.run pins s σ H v u Q I r (i v σ H Q q)⟩
theorem opr_mono {X : Cx} {f : Value → Value → Sem Value} {r r' : R2} (h : OpR X f r) (i : ∀ x y H Q, r' x y H Q → r x y H Q) : OpR X f r' := fun pins s σ H x y v u Q I rx ry q => h pins s σ H x y v u Q I rx ry (i x y H Q q)
theorem unr_mono {X : Cx} {f : Value → Sem Value} {r r' : V → Hp → VK → Prop} (h : UnR X f r) (i : ∀ x H Q, r' x H Q → r x H Q) : UnR X f r' := fun pins s σ H x v Q I rx q => h pins s σ H x v Q I rx (i x H Q q)
theorem callr_mono {X : Cx} {f : Value} {r r' : List V → Hp → VK → Prop} (h : CallR X f r) (i : ∀ x H Q, r' x H Q → r x H Q) : CallR X f r' := fun pins s σ H xs us Q I rx q => h pins s σ H xs us Q I rx (i xs H Q q)
theorem ixr_mono {X : Cx} {r r' : R2} (h : IxR X r) (i : ∀ x y H Q, r' x y H Q → r x y H Q) : IxR X r' := fun va sl pins s σ H x y v u Q I rx ry q => h va sl pins s σ H x y v u Q I rx ry (i x y H Q q)

/-! ### names and constants -/
section
variable {X : Cx} {e a b c : Expr} {pos : Pos} {t ta tb tc : DE}
def dVar (i : Nat) : DE := fun σ G R => match σ[i]? with | some (some d) => R d G | _ => False
def dC (d : D) : DE := fun _ G R => R d G
theorem qv (i : Nat) {x : Str} {pos : Pos} (hN : X.N[i]? = some x := by rfl) (hv : Vis X.env.scope x := by first | exact Or.inl rfl | exact Or.inr (Or.inl rfl) | exact Or.inr (Or.inr rfl)) (hd : (x == ("__debug__" : Str)) = false := by decide)
    (hcd : (x == ("__classdict__" : Str)) = false := by decide) : QE X (.Name x pos) (dVar i) := by
  refine pe_mono (pe_var hN hv hd hcd) fun τ H Q h => ?_
  obtain ⟨σ, G, N, R, hs, hg, ht, q⟩ := h
  unfold dVar at ht
  split at ht
  · rename_i d e
    obtain ⟨v, h1, h2⟩ := hs.2 i d e
    exact ⟨v, h1, q.at hg ht h2⟩
  · exact ht.elim
theorem up_c {K : PySem.W.Frag} {d : D} {v : V} (h : ∀ H N, RD K H N d v) {τ : L2.St} {H : Hp} {Q : VK} (u : up K (dC d) τ H Q) : Q v H := by
  obtain ⟨σ, G, N, R, hs, hg, ht, q⟩ := u
  exact q.at hg ht (h H N)
theorem qe_int {i j pos} : QE X (.Constant (.int i) j pos) (dC (.int i)) := pe_mono pe_int fun _ _ _ h => up_c (fun _ _ => RD.int i) h
theorem qe_bl {i j pos} : QE X (.Constant (.bool i) j pos) (dC (.bl i)) := pe_mono pe_bl fun _ _ _ h => up_c (fun _ _ => RD.bl i) h
theorem qe_non {j pos} : QE X (.Constant .none j pos) (dC .non) := pe_mono pe_non fun _ _ _ h => up_c (fun _ _ => RD.non) h
theorem qe_str {i j pos} : QE X (.Constant (.str i) j pos) (dC (.str i)) := pe_mono pe_str fun _ _ _ h => up_c (fun _ _ => RD.str i) h
/-- a module's constant -/
theorem qe_glob {x : Str} {d : D} {v : V} {u : Value} {pos : Pos} (hg : Gl X x) (hm : X.mg x = some u) (r : RelV v u) (h : ∀ H N, RD X.K H N d v) (hd : (x == ("__debug__" : Str)) = false := by decide) : QE X (.Name x pos) (dC d) :=
  pe_mono (pe_glob hg hm r hd) fun _ _ _ z => up_c h z

/-! ### operators -/
def dOp (r : DR2) (ta tb : DE) : DE := fun σ G R => ta σ G fun x G1 => tb σ G1 fun y G2 => r x y G2 R
def dUn (r : DR1) (ta : DE) : DE := fun σ G R => ta σ G fun x G1 => r x G1 R
theorem up_op {K : PySem.W.Frag} {r : DR2} {τ : L2.St} {H : Hp} {Q : VK} (u : up K (dOp r ta tb) τ H Q) : tOp (upR2 K r) (up K ta) (up K tb) τ H Q := by
  obtain ⟨σ, G, N, R, hs, hg, ht, q⟩ := u
  refine ⟨σ, G, N, _, hs, hg, ht, fun x G1 N1 v1 H1 h1 s1 r1 => ?_⟩
  refine ⟨σ, G1, N1, _, hs.le s1.kp, s1.rel, h1, fun y G2 N2 v2 H2 h2 s2 r2 => ?_⟩
  exact ⟨x, y, G2, N2, R, r1.le s2.kp, r2, s2.rel, h2, q.le (s1.trans s2)⟩
theorem qe_op {op : Operator} {r : DR2} (ho : OpD X (binaryOp op) r) (ha : QE X a ta) (hb : QE X b tb) : QE X (.BinOp a op b pos) (dOp r ta tb) := pe_mono (pe_op ho ha hb) fun _ _ _ h => up_op h
theorem qe_cmp {op : CmpOp} {r : DR2} (ho : OpD X (compareOp op) r) (ha : QE X a ta) (hb : QE X b tb) (hm : behindInMarks op b = false) : QE X (.Compare a [op] [b] pos) (dOp r ta tb) := pe_mono (pe_cmpR ho ha hb hm) fun _ _ _ h => up_op h
theorem qe_ix {r : DR2} (ho : IxD X r) (ha : QE X a ta) (hb : QE X b tb) (hs : PlainIx b) : QE X (.Subscript a b pos) (dOp r ta tb) := pe_mono (pe_ix ho ha hb hs) fun _ _ _ h => up_op h
theorem qe_un {op : UnaryOp} {r : DR1} (ho : UnD X (unaryOp op) r) (ha : QE X a ta) : QE X (.UnaryOp op a pos) (dUn r ta) := by
  refine pe_mono (pe_un ho ha) fun τ H Q h => ?_
  obtain ⟨σ, G, N, R, hs, hg, ht, q⟩ := h
  refine ⟨σ, G, N, _, hs, hg, ht, fun x G1 N1 v1 H1 h1 s1 r1 => ?_⟩
  exact ⟨x, G1, N1, R, r1, s1.rel, h1, q.le s1⟩
/-- a op1 b op2 c -/
def dChain (r r' : DR2) (ta tb tc : DE) : DE := fun σ G R => ta σ G fun x G1 => tb σ G1 fun y G2 => r x y G2 fun z G3 => match z with | .bl true => tc σ G3 fun w G4 => r' y w G4 R | .bl false => R (.bl false) G3 | _ => False
theorem qe_chain {op op' : CmpOp} {r r' : DR2} (ho : OpD X (compareOp op) r) (ho' : OpD X (compareOp op') r') (ha : QE X a ta) (hb : QE X b tb) (hc : QE X c tc)
    (hm : lastMarks [op, op'] [b, c] = false := by with_unfolding_all rfl) : QE X (.Compare a [op, op'] [b, c] pos) (dChain r r' ta tb tc) := by
  refine pe_mono (pe_chain ho ho' ha hb hc hm) fun τ H Q h => ?_
  obtain ⟨σ, G, N, R, hs, hg, ht, q⟩ := h
  refine ⟨σ, G, N, _, hs, hg, ht, fun x G1 N1 v1 H1 h1 s1 r1 => ?_⟩
  refine ⟨σ, G1, N1, _, hs.le s1.kp, s1.rel, h1, fun y G2 N2 v2 H2 h2 s2 r2 => ?_⟩
  refine ⟨x, y, G2, N2, _, r1.le s2.kp, r2, s2.rel, h2, fun z G3 N3 v3 H3 h3 s3 r3 => ?_⟩
  have s13 := (s1.trans s2).trans s3
  split at h3
  · refine ⟨true, r3.of_bl, ?_⟩
    rw [if_pos rfl]
    refine ⟨σ, G3, N3, _, hs.le s13.kp, s3.rel, h3, fun w G4 N4 v4 H4 h4 s4 r4 => ?_⟩
    exact ⟨y, w, G4, N4, R, (r2.le s3.kp).le s4.kp, r4, s4.rel, h4, q.le (s13.trans s4)⟩
  · refine ⟨false, r3.of_bl, ?_⟩
    rw [if_neg Bool.false_ne_true]
    exact (q.le s13).at s3.rel h3 (RD.bl _)
  · exact h3.elim
/-! ### tests -/
/-- a value that is a bool, as a test -/
def dB (t : DE) : DT := fun σ G R => t σ G fun x G1 => match x with | .bl b => R b G1 | _ => False
theorem upT_B {K : PySem.W.Frag} {τ : L2.St} {H : Hp} {Q : Bool → Hp → Prop} (u : upT K (dB t) τ H Q) : tB (up K t) τ H Q := by
  obtain ⟨σ, G, N, R, hs, hg, ht, q⟩ := u
  refine ⟨σ, G, N, _, hs, hg, ht, fun x G1 N1 v1 H1 h1 s1 r1 => ?_⟩
  split at h1
  · exact ⟨_, r1.of_bl, q _ _ _ _ h1 s1⟩
  · exact h1.elim
theorem qt_val (h : QE X e t) (he : ∀ whole, isTrue e X.env whole = (do let v ← whole; standAt e.pos; holding [v] (truthy v)) := by intro _; rfl) : QT X e (dB t) := pt_mono (pt_val h he) fun _ _ _ z => upT_B z
theorem qt_cmp {op : CmpOp} {r : DR2} (ho : OpD X (compareOp op) r) (ha : QE X a ta) (hb : QE X b tb) (hm : behindInMarks op b = false) : QT X (.Compare a [op] [b] pos) (dB (dOp r ta tb)) :=
  pt_mono (pt_cmpR ho ha hb hm) fun τ H Q h => by
    obtain ⟨σ, G, N, R, hs, hg, ht, q⟩ := h
    refine up_op ⟨σ, G, N, _, hs, hg, ht, fun x G1 N1 v1 H1 h1 s1 r1 => ?_⟩
    split at h1
    · exact ⟨_, r1.of_bl, q _ _ _ _ h1 s1⟩
    · exact h1.elim
theorem up_chain {K : PySem.W.Frag} {r r' : DR2} {τ : L2.St} {H : Hp} {Q : VK} (u : up K (dChain r r' ta tb tc) τ H Q) : tChain (upR2 K r) (upR2 K r') (up K ta) (up K tb) (up K tc) τ H Q := by
  obtain ⟨σ, G, N, R, hs, hg, ht, q⟩ := u
  refine ⟨σ, G, N, _, hs, hg, ht, fun x G1 N1 v1 H1 h1 s1 r1 => ?_⟩
  refine ⟨σ, G1, N1, _, hs.le s1.kp, s1.rel, h1, fun y G2 N2 v2 H2 h2 s2 r2 => ?_⟩
  refine ⟨x, y, G2, N2, _, r1.le s2.kp, r2, s2.rel, h2, fun z G3 N3 v3 H3 h3 s3 r3 => ?_⟩
  have s13 := (s1.trans s2).trans s3
  split at h3
  · refine ⟨true, r3.of_bl, ?_⟩
    rw [if_pos rfl]
    refine ⟨σ, G3, N3, _, hs.le s13.kp, s3.rel, h3, fun w G4 N4 v4 H4 h4 s4 r4 => ?_⟩
    exact ⟨y, w, G4, N4, R, (r2.le s3.kp).le s4.kp, r4, s4.rel, h4, q.le (s13.trans s4)⟩
  · refine ⟨false, r3.of_bl, ?_⟩
    rw [if_neg Bool.false_ne_true]
    exact (q.le s13).at s3.rel h3 (RD.bl _)
  · exact h3.elim
theorem qt_chain {op op' : CmpOp} {r r' : DR2} (ho : OpD X (compareOp op) r) (ho' : OpD X (compareOp op') r') (ha : QE X a ta) (hb : QE X b tb) (hc : QE X c tc)
    (hm : lastMarks [op, op'] [b, c] = false := by with_unfolding_all rfl) : QT X (.Compare a [op, op'] [b, c] pos) (dB (dChain r r' ta tb tc)) :=
  pt_mono (pt_chain ho ho' ha hb hc hm) fun τ H Q h => by
    obtain ⟨σ, G, N, R, hs, hg, ht, q⟩ := h
    refine up_chain ⟨σ, G, N, _, hs, hg, ht, fun x G1 N1 v1 H1 h1 s1 r1 => ?_⟩
    split at h1
    · exact ⟨_, r1.of_bl, q _ _ _ _ h1 s1⟩
    · exact h1.elim
variable {u u' : DT} {rest : List Expr}
def dAnd (t u : DT) : DT := fun σ G R => t σ G fun c G1 => match c with | true => u σ G1 R | false => R false G1
def dOr (t u : DT) : DT := fun σ G R => t σ G fun c G1 => match c with | true => R true G1 | false => u σ G1 R
def dNot (t : DT) : DT := fun σ G R => t σ G fun c G1 => R (!c) G1
theorem QW.pt (h : QW X e u) : QT X e u := PW.pt h
theorem qw_and1 (ha : QT X a u) : QW X (.BoolOp .And [a] pos) u := pw_and1 ha
theorem qw_or1 (ha : QT X a u) : QW X (.BoolOp .Or [a] pos) u := pw_or1 ha
theorem qw_and (ha : QT X a u) (hb : QW X (.BoolOp .And (b :: rest) pos) u') : QW X (.BoolOp .And (a :: b :: rest) pos) (dAnd u u') :=
  pw_mono (pw_and ha hb) fun τ H Q h => by
    obtain ⟨σ, G, N, R, hs, hg, ht, q⟩ := h
    refine ⟨σ, G, N, _, hs, hg, ht, fun c G1 N1 H1 h1 s1 => ?_⟩
    cases c with
    | true => rw [if_pos rfl]; exact ⟨σ, G1, N1, R, hs.le s1.kp, s1.rel, h1, fun b G2 N2 H2 h2 s2 => q b G2 N2 H2 h2 (s1.trans s2)⟩
    | false => rw [if_neg Bool.false_ne_true]; exact q _ _ _ _ h1 s1
theorem qw_or (ha : QT X a u) (hb : QW X (.BoolOp .Or (b :: rest) pos) u') : QW X (.BoolOp .Or (a :: b :: rest) pos) (dOr u u') :=
  pw_mono (pw_or ha hb) fun τ H Q h => by
    obtain ⟨σ, G, N, R, hs, hg, ht, q⟩ := h
    refine ⟨σ, G, N, _, hs, hg, ht, fun c G1 N1 H1 h1 s1 => ?_⟩
    cases c with
    | true => rw [if_pos rfl]; exact q _ _ _ _ h1 s1
    | false => rw [if_neg Bool.false_ne_true]; exact ⟨σ, G1, N1, R, hs.le s1.kp, s1.rel, h1, fun b G2 N2 H2 h2 s2 => q b G2 N2 H2 h2 (s1.trans s2)⟩
theorem qt_not (ha : QT X a u) : QT X (.UnaryOp .Not a pos) (dNot u) :=
  pt_mono (pt_not ha) fun τ H Q h => by
    obtain ⟨σ, G, N, R, hs, hg, ht, q⟩ := h
    exact ⟨σ, G, N, _, hs, hg, ht, fun c G1 N1 H1 h1 s1 => q _ _ _ _ h1 s1⟩
/-- .. as values that are bools -/
def dAndV (ta tb : DE) : DE := fun σ G R => ta σ G fun x G1 => match x with | .bl true => tb σ G1 R | .bl false => R (.bl false) G1 | _ => False
def dOrV (ta tb : DE) : DE := fun σ G R => ta σ G fun x G1 => match x with | .bl true => R (.bl true) G1 | .bl false => tb σ G1 R | _ => False
def dNotV (ta : DE) : DE := fun σ G R => ta σ G fun x G1 => match x with | .bl c => R (.bl (!c)) G1 | _ => False
theorem qe_one {op} (h : QE X a t) : QE X (.BoolOp op [a] pos) t := pe_one h
theorem qe_and (ha : QE X a ta) (hb : QE X (.BoolOp .And (b :: rest) pos) tb) : QE X (.BoolOp .And (a :: b :: rest) pos) (dAndV ta tb) :=
  pe_mono (pe_and ha hb) fun τ H Q h => by
    obtain ⟨σ, G, N, R, hs, hg, ht, q⟩ := h
    refine ⟨σ, G, N, _, hs, hg, ht, fun x G1 N1 v1 H1 h1 s1 r1 => ?_⟩
    split at h1
    · refine ⟨true, r1.of_bl, ?_⟩
      rw [if_pos rfl]
      exact ⟨σ, G1, N1, R, hs.le s1.kp, s1.rel, h1, q.le s1⟩
    · refine ⟨false, r1.of_bl, ?_⟩
      rw [if_neg Bool.false_ne_true]
      exact (q.le s1).at s1.rel h1 (RD.bl _)
    · exact h1.elim
theorem qe_not (ha : QE X a ta) : QE X (.UnaryOp .Not a pos) (dNotV ta) :=
  pe_mono (pe_not ha) fun τ H Q h => by
    obtain ⟨σ, G, N, R, hs, hg, ht, q⟩ := h
    refine ⟨σ, G, N, _, hs, hg, ht, fun x G1 N1 v1 H1 h1 s1 r1 => ?_⟩
    split at h1
    · exact ⟨_, r1.of_bl, (q.le s1).at s1.rel h1 (RD.bl _)⟩
    · exact h1.elim
def dIf (t : DT) (ta tb : DE) : DE := fun σ G R => t σ G fun c G1 => match c with | true => ta σ G1 R | false => tb σ G1 R
theorem qe_ifExp (hc : QT X c u) (ha : QE X a ta) (hb : QE X b tb) : QE X (.IfExp c a b pos) (dIf u ta tb) :=
  pe_mono (pe_ifExp hc ha hb) fun τ H Q h => by
    obtain ⟨σ, G, N, R, hs, hg, ht, q⟩ := h
    refine ⟨σ, G, N, _, hs, hg, ht, fun c G1 N1 H1 h1 s1 => ?_⟩
    cases c with
    | true => rw [if_pos rfl]; exact ⟨σ, G1, N1, R, hs.le s1.kp, s1.rel, h1, q.le s1⟩
    | false => rw [if_neg Bool.false_ne_true]; exact ⟨σ, G1, N1, R, hs.le s1.kp, s1.rel, h1, q.le s1⟩
/-! ### argument lists, displays -/
variable {es : List Expr} {tr : DA}
def dNil : DA := fun _ G R => R [] G
def dCons (ta : DE) (tr : DA) : DA := fun σ G R => ta σ G fun x G1 => tr σ G1 fun xs G2 => R (x :: xs) G2
theorem qa_nil : QA X [] dNil := pa_mono pa_nil fun τ H Q h => by
  obtain ⟨σ, G, N, R, hs, hg, ht, q⟩ := h
  exact q [] G N [] H ht (Stp.refl hg) RDs.nil
theorem qa_cons (ha : QE X e t) (hr : QA X es tr) (hs : starEach (e :: es) X.env = (false, eval e X.env) :: starEach es X.env := by rfl) : QA X (e :: es) (dCons t tr) :=
  pa_mono (pa_cons ha hr hs) fun τ H Q h => by
    obtain ⟨σ, G, N, R, hs, hg, ht, q⟩ := h
    refine ⟨σ, G, N, _, hs, hg, ht, fun x G1 N1 v1 H1 h1 s1 r1 => ?_⟩
    refine ⟨σ, G1, N1, _, hs.le s1.kp, s1.rel, h1, fun ds G2 N2 vs H2 h2 s2 r2 => ?_⟩
    exact q _ G2 N2 _ H2 h2 (s1.trans s2) (RDs.cons (r1.le s2.kp) r2)
/-- a new list: known (to be changed), or one that nobody changes -/
def newL (mk : Bool) (ds : List D) (G : Gp) (R : DK) : Prop := match mk with | true => ∀ p, G p = none → R (.ref p) (gup G p (.lst ds)) | false => R (.lst ds) G
theorem newL_ok {K : PySem.W.Frag} {mk : Bool} {H : Hp} {N : Ns} {G : Gp} {ds : List D} {vs : List V} {R : DK} {Q : VK} (r : RelG K H N G) (rd : RDs K H N ds vs) (h : newL mk ds G R) (q : UpQ K H N G R Q) {p : Addr} (np : H p = none) : Q (.ref p) (upd H p (.lst vs)) := by
  cases mk with
  | true =>
    exact q _ _ _ _ _ (h p (r.free np)) (Stp.new (u := .lst vs) (o := .lst ds) r np ⟨vs, upd_same, rd.le (Kp.new np)⟩) (RD.ref p)
  | false =>
    exact q _ _ _ _ _ h (Stp.newV (u := .lst vs) r np) (RD.lst (.inl ⟨upd_same, fun z => z.1 rfl⟩) (rd.le (Kp.newV np)))
theorem newT_ok {K : PySem.W.Frag} {H : Hp} {N : Ns} {G : Gp} {ds : List D} {vs : List V} {R : DK} {Q : VK} (r : RelG K H N G) (rd : RDs K H N ds vs) (h : R (.tup ds) G) (q : UpQ K H N G R Q) {p : Addr} (np : H p = none) : Q (.ref p) (upd H p (.tup vs)) :=
  q _ _ _ _ _ h (Stp.new0 (u := .tup vs) r np) (RD.tup (.inl (.inl upd_same)) (rd.le (Kp.new0 np)))
def dTup (t : DA) : DE := fun σ G R => t σ G fun ds G1 => ds.length ≤ sizeLine ∧ R (.tup ds) G1
def dLst (mk : Bool) (t : DA) : DE := fun σ G R => t σ G fun ds G1 => ds.length ≤ sizeLine ∧ newL mk ds G1 R
theorem qe_tup {x1} (h : QA X es tr) : QE X (.Tuple es x1 pos) (dTup tr) := pe_mono (pe_tup h) fun τ H Q h => by
  obtain ⟨σ, G, N, R, hs, hg, ht, q⟩ := h
  refine ⟨σ, G, N, _, hs, hg, ht, fun ds G1 N1 vs H1 h1 s1 r1 => ⟨by rw [← r1.length]; exact h1.1, fun p np => ?_⟩⟩
  exact newT_ok s1.rel r1 h1.2 (q.le s1) np
theorem qe_lst (mk : Bool) (h : QA X es tr) : QE X (.List es pos) (dLst mk tr) := pe_mono (pe_lst h) fun τ H Q h => by
  obtain ⟨σ, G, N, R, hs, hg, ht, q⟩ := h
  refine ⟨σ, G, N, _, hs, hg, ht, fun ds G1 N1 vs H1 h1 s1 r1 => ⟨by rw [← r1.length]; exact h1.1, fun p np => ?_⟩⟩
  exact newL_ok s1.rel r1 h1.2 (q.le s1) np
/-! ### calls of built-ins -/
def dCallB (r : DRn) (t : DA) : DE := fun σ G R => t σ G fun ds G1 => r ds G1 R
end
end DL

set_option Elab.async false
set_option linter.all false
set_option maxRecDepth 100000
set_option maxHeartbeats 4000000
set_option autoImplicit false
namespace DL
open PySem PySem.Spec PyProof.Rows L2

/-! ### blocks and small statements -/
theorem UpE.le {K : PySem.W.Frag} {H H1 : Hp} {N N1 : Ns} {G G1 : Gp} {E : DEnds} {D : Ends} (u : UpE K H N G E D) (s : Stp K H N G H1 N1 G1) : UpE K H1 N1 G1 E D :=
  ⟨fun σ' G' N' τ' H' h s' => u.nx σ' G' N' τ' H' h (s.trans s'), u.rt.le s, fun σ' G' N' τ' H' h s' => u.bk σ' G' N' τ' H' h (s.trans s'), fun σ' G' N' τ' H' h s' => u.ct σ' G' N' τ' H' h (s.trans s')⟩
section
variable {X : Cx} {st : Stmt} {rest : List Stmt} {t u : DS} {e : Expr} {te : DE} {pos : Pos}
def dNext : DS := fun D σ G => D.nx σ G
def dSeq (t u : DS) : DS := fun D σ G => t { D with nx := u D } σ G
theorem qss_nil : QSs X [] dNext := pss_mono pss_nil fun D τ H h => by
  obtain ⟨σ, G, N, E, hs, hg, ht, q⟩ := h
  exact q.nx _ _ _ _ _ ht (Stp.refl hg) hs
theorem qss_cons (h1 : QS X st t) (h2 : QSs X rest u) : QSs X (st :: rest) (dSeq t u) := pss_mono (pss_cons h1 h2) fun D τ H h => by
  obtain ⟨σ, G, N, E, hs, hg, ht, q⟩ := h
  refine ⟨σ, G, N, _, hs, hg, ht, ⟨fun σ' G' N' τ' H' h s' r => ?_, q.rt, q.bk, q.ct⟩⟩
  exact ⟨σ', G', N', E, r, s'.rel, h, q.le s'⟩
theorem qss_one (h1 : QS X st t) : QSs X [st] t := pss_mono (pss_one h1) fun D τ H h => h
def dBreak : DS := fun D σ G => D.bk σ G
def dCont : DS := fun D σ G => D.ct σ G
def dDrop (te : DE) : DS := fun D σ G => te σ G fun _ G1 => D.nx σ G1
theorem qs_expr (he : QE X e te) (hs : swapsWith e none pos.line X.env = pure false := by rfl) : QS X (.Expr e pos) (dDrop te) := ps_mono (ps_expr he hs) fun D τ H h => by
  obtain ⟨σ, G, N, E, hs, hg, ht, q⟩ := h
  exact ⟨σ, G, N, _, hs, hg, ht, fun d G' N' v H' h s' r => q.nx _ _ _ _ _ h s' (hs.le s'.kp)⟩
/-- what may be said instead: fewer known things, a list that is left alone from now on -/
inductive Wk (G : Gp) : D → D → Gp → Prop where
  | same {d : D} {G0 : Gp} : Sub G0 G → Wk G d d G0
  | lst {p : Addr} {ds : List D} {G0 : Gp} : G p = some (.lst ds) → Sub G0 G → G0 p = none → Wk G (.ref p) (.lst ds) G0
theorem UpQ.wk {K : PySem.W.Frag} {H0 H : Hp} {N0 N : Ns} {G0 G G' : Gp} {R : DK} {Q : VK} {d d' : D} {v : V} (q : UpQ K H0 N0 G0 R Q) (s : Stp K H0 N0 G0 H N G) (rd : RD K H N d v) (w : Wk G d d' G') (h : R d' G') (hy : ∀ p, G p ≠ none → H0 p = none ∨ G0 p ≠ none) : Q v H := by
  cases w with
  | same sb => exact q _ _ _ _ _ h (s.trans (s.rel.sub sb)) rd
  | @lst p ds _ e sb n =>
    obtain rfl := rd.of_ref
    obtain ⟨hN, vs, hv, hd⟩ := s.rel p _ e
    have s2 := (s.trans (s.rel.sub sb)).calm (hy p (by rw [e]; simp)) n
    exact q _ _ _ _ _ h s2 (RD.lst (.inl ⟨hv, fun z => z.1 rfl⟩) (hd.le Kp.calm))
theorem Stp.old {K : PySem.W.Frag} {H0 H : Hp} {N0 N : Ns} {G0 G : Gp} (s : Stp K H0 N0 G0 H N G) (p : Addr) (h : G p ≠ none) : H0 p = none ∨ G0 p ≠ none := by
  cases e : H0 p with
  | none => exact .inl rfl
  | some u =>
    refine .inr fun n => h ?_
    exact (s.fr p u e n).2.1
def dRet (te : DE) : DS := fun D σ G => te σ G fun d G1 => ∃ d' G', Wk G1 d d' G' ∧ D.rt d' G'
theorem qs_ret (he : QE X e te) : QS X (.Return (some e) pos) (dRet te) := ps_mono (ps_ret he) fun D τ H h => by
  obtain ⟨σ, G, N, E, hs, hg, ht, q⟩ := h
  refine ⟨σ, G, N, _, hs, hg, ht, fun d G' N' v H' h s' r => ?_⟩
  obtain ⟨d', G2, w, h⟩ := h
  exact q.rt.wk s' r w h s'.old
def dRetN : DS := fun D _ G => ∃ G', Sub G' G ∧ D.rt .non G'
def dIfS (c : DT) (t u : DS) : DS := fun D σ G => c σ G fun b G1 => match b with | true => t D σ G1 | false => u D σ G1
theorem qs_if {c : Expr} {a b : List Stmt} {tc : DT} (hc : QT X c tc) (ha : QSs X a t) (hb : QSs X b u) : QS X (.If c a b pos) (dIfS tc t u) := ps_mono (ps_if hc ha hb) fun D τ H h => by
  obtain ⟨σ, G, N, E, hs, hg, ht, q⟩ := h
  refine ⟨σ, G, N, _, hs, hg, ht, fun b G1 N1 H1 h1 s1 => ?_⟩
  cases b with
  | true => rw [if_pos rfl]; exact ⟨σ, G1, N1, E, hs.le s1.kp, s1.rel, h1, q.le s1⟩
  | false => rw [if_neg Bool.false_ne_true]; exact ⟨σ, G1, N1, E, hs.le s1.kp, s1.rel, h1, q.le s1⟩
def dNever : DS := fun _ _ _ => False
theorem qs_never : QS X st dNever := ⟨fun _ _ _ _ _ _ h => by obtain ⟨_, _, _, _, _, _, h, _⟩ := h; exact h.elim⟩
end
/-! ### targets -/
section
variable {X : Cx} {e : Expr} {te : DE} {pos : Pos}
def setAll (σ : Sd) : List Nat → List D → Sd
  | i :: is, d :: ds => setAll (σ.set i (some d)) is ds
  | _, _ => σ
def setAllV (σ : L2.St) : List Nat → List V → L2.St
  | i :: is, d :: ds => setAllV (σ.set i (some d)) is ds
  | _, _ => σ
theorem RSt.setAll {K : PySem.W.Frag} {H : Hp} {N : Ns} : ∀ (is : List Nat) {ds : List D} {vs : List V} {σ : Sd} {τ : L2.St}, RSt K H N σ τ → RDs K H N ds vs → RSt K H N (setAll σ is ds) (setAllV τ is vs)
  | [], _, _, _, _, h, _ => h
  | i :: is, [], _, _, _, h, r => by rw [r.of_nil]; exact h
  | i :: is, d :: ds, _, _, _, h, r => by
    obtain ⟨v, rr, rfl, r1, r2⟩ := r.of_cons
    exact RSt.setAll is (h.set r1 i) r2
/-- what a target does: by data, by values; the slots vs alone are changed -/
def TgOk (K : PySem.W.Frag) (vg : TG) (dg : DG) (ws : List Nat) : Prop :=
  ∀ (d : D) (v : V) (σ : Sd) (τ : L2.St) (H : Hp) (N : Ns) (G : Gp) (R : Sd → Gp → Prop) (Q : L2.St → Hp → Prop), RD K H N d v → RSt K H N σ τ → RelG K H N G → dg d σ G R →
    (∀ σ' τ', R σ' G → RSt K H N σ' τ' → wipe τ' ws = wipe τ ws → Q τ' H) → vg v τ H Q
theorem wipe_set {τ : L2.St} {i : Nat} {x : Option V} : ∀ {ws : List Nat}, i ∈ ws → wipe (τ.set i x) ws = wipe τ ws
  | [], h => by cases h
  | w :: ws, h => by
    unfold wipe
    by_cases e : i ∈ ws
    · rw [wipe_set e]
    · have e2 : i = w := by
        rcases List.mem_cons.mp h with h | h
        · exact h
        · exact absurd h e
      subst e2
      have aux : ∀ vs : List Nat, i ∉ vs → wipe (τ.set i x) vs = (wipe τ vs).set i x := by
        intro vs
        induction vs with
        | nil => intro _; rfl
        | cons v vs ih =>
          intro hv
          unfold wipe
          rw [ih (fun z => hv (List.mem_cons_of_mem _ z)), List.set_comm]
          exact fun z => hv (by rw [z]; exact List.mem_cons_self)
      rw [aux ws e, List.set_set]
def dName (i : Nat) : DG := fun d σ G R => R (σ.set i (some d)) G
theorem tg_name {K : PySem.W.Frag} {ws : List Nat} {i : Nat} (h : i ∈ ws) : TgOk K (gName i) (dName i) ws := fun d v σ τ H N G R Q rd rs rg h0 q => q _ _ h0 (rs.set rd i) (wipe_set h)
def gNames : List Nat → TGs
  | [] => gNil
  | i :: is => gCons (gName i) (gNames is)
theorem gNames_ok {Q : L2.St → Hp → Prop} : ∀ {is : List Nat} {vs : List V} {τ : L2.St} {H : Hp}, vs.length = is.length → Q (setAllV τ is vs) H → gNames is vs τ H Q
  | [], [], _, _, _, h => ⟨rfl, h⟩
  | [], _ :: _, _, _, e, _ => by simp at e
  | i :: is, [], _, _, e, _ => by simp at e
  | i :: is, v :: vs, τ, H, e, h => ⟨v, vs, rfl, gNames_ok (by simpa using e) h⟩
theorem wipe_setAll : ∀ {is : List Nat} {vs : List V} {τ : L2.St} {ws : List Nat}, (∀ i ∈ is, i ∈ ws) → wipe (setAllV τ is vs) ws = wipe τ ws
  | [], _, _, _, _ => by simp [setAllV]
  | i :: is, [], _, _, _ => by simp [setAllV]
  | i :: is, v :: vs, τ, ws, h => by
    rw [setAllV, wipe_setAll (fun j hj => h j (List.mem_cons_of_mem _ hj)), wipe_set (h i List.mem_cons_self)]
def dNames (is : List Nat) : DG := fun d σ G R => match d with | .tup ds => ds.length = is.length ∧ R (setAll σ is ds) G | _ => False
theorem tg_names {K : PySem.W.Frag} {ws is : List Nat} {n : Nat} (h : ∀ i ∈ is, i ∈ ws) (hn : is.length = n) : TgOk K (gTup K n (gNames is)) (dNames is) ws := fun d v σ τ H N G R Q rd rs rg h0 q => by
  unfold dNames at h0
  split at h0
  · rename_i ds
    obtain ⟨p, vs, rfl, sq, r⟩ := rd.of_tup
    have hl := r.length
    refine ⟨p, vs, rfl, sq, by omega, gNames_ok (by omega) ?_⟩
    exact q _ _ h0.2 (RSt.setAll is rs r) (wipe_setAll h)
  · exact h0.elim
/-- a target, by data -/
theorem qg_of {tg : Expr} {vg : TG} {dg : DG} {ws : List Nat} (h : PG X tg vg) (t : TgOk X.K vg dg ws) : QG X tg dg := pg_mono h fun v τ H Q h => by
  obtain ⟨d, σ, G, N, R, rd, rs, rg, h0, q⟩ := h
  exact t d v σ τ H N G R Q rd rs rg h0 fun σ' τ' h1 r1 _ => q _ _ _ _ _ h1 (Stp.refl rg) r1
/-- name = value -/
def dAsg (te : DE) (g : DG) : DS := fun D σ G => te σ G fun x G1 => g x σ G1 D.nx
theorem upS_asg {K : PySem.W.Frag} {g : DG} {D : Ends} {τ : L2.St} {H : Hp} (h : upS K (dAsg te g) D τ H) : tAsg (up K te) (upG K g) D τ H := by
  obtain ⟨σ, G, N, E, hs, hg, ht, q⟩ := h
  refine ⟨σ, G, N, _, hs, hg, ht, fun d G' N' v H' h s' r => ?_⟩
  exact ⟨d, σ, G', N', _, r, hs.le s'.kp, s'.rel, h, fun σ2 G2 N2 τ2 H2 h2 s2 r2 => q.nx _ _ _ _ _ h2 (s'.trans s2) r2⟩
theorem qs_set {i : Nat} {x : Str} {pos' : Pos} (hN : X.N.Nodup) (hi : X.N[i]? = some x) (hx : Loc X.env.scope x) (he : QE X e te) (hs : swapsWith e (some (.Name x pos')) pos.line X.env = pure false := by rfl) (hf : X.fn x = true ∨ X.env.scope.names.lookup x = some .local := by first | exact .inl rfl | exact .inr rfl | assumption) :
    QS X (.Assign [.Name x pos'] e pos) (dAsg te (dName i)) := ps_mono (ps_set hN hi hx he hs hf) fun D τ H h => by
  obtain ⟨σ, G, N, E, hs, hg, ht, q⟩ := h
  refine ⟨σ, G, N, _, hs, hg, ht, fun d G' N' v H' h s' r => ?_⟩
  exact q.nx _ _ _ _ _ h s' ((hs.le s'.kp).set r i)
theorem qs_asg {tg : Expr} {g : DG} (he : QE X e te) (hg : QG X tg g) (hs : swapsWithSole [tg] e pos.line X.env = pure false := by rfl) (hw : swappedStores [tg] e X.env = pure none := by rfl)
    (h1 : (assignEach [tg] X.env).map (·.2) = [assign tg X.env] := by rfl) : QS X (.Assign [tg] e pos) (dAsg te g) := ps_mono (ps_asg he hg hs hw h1) fun D τ H h => upS_asg h
/-- o[i] = .. , by data -/
abbrev DSet := D → D → D → Gp → (Gp → Prop) → Prop
def upSet (K : PySem.W.Frag) (r : DSet) : TSet := fun o i v H Q => ∃ c d e G N R, RD K H N c o ∧ RD K H N d i ∧ RD K H N e v ∧ RelG K H N G ∧ r c d e G R ∧ ∀ G' N' H', R G' → Stp K H N G H' N' G' → Q H'
def SetD (X : Cx) (r : DSet) : Prop := PSet X (upSet X.K r)
def dSub (to ti : DE) (r : DSet) : DG := fun v σ G R => to σ G fun o G1 => ti σ G1 fun i G2 => r o i v G2 fun G3 => R σ G3
theorem qg_sub {o i : Expr} {to ti : DE} {r : DSet} (ho : QE X o to) (hi : QE X i ti) (hs : SetD X r)
    (ha : ∀ v, assign (.Subscript o i pos) X.env v = (do
      let ov ← holding [v] (eval o X.env)
      let iv ← holding [v, ov] (eval i X.env)
      standAt pos
      holding [v, ov, iv] (setItem ov iv v)
      release [v, ov, iv] []) := by intro _; rfl) : QG X (.Subscript o i pos) (dSub to ti r) := pg_mono (pg_sub ho hi hs ha) fun v τ H Q h => by
  obtain ⟨d, σ, G, N, R, rd, rs, rg, h0, q⟩ := h
  refine ⟨σ, G, N, _, rs, rg, h0, fun x G1 N1 v1 H1 h1 s1 r1 => ?_⟩
  refine ⟨σ, G1, N1, _, rs.le s1.kp, s1.rel, h1, fun y G2 N2 v2 H2 h2 s2 r2 => ?_⟩
  exact ⟨x, y, d, G2, N2, _, r1.le s2.kp, r2, (rd.le s1.kp).le s2.kp, s2.rel, h2, fun G3 N3 H3 h3 s3 => q _ _ _ _ _ h3 ((s1.trans s2).trans s3) (((rs.le s1.kp).le s2.kp).le s3.kp)⟩
/-- name op= e -/
def dAug (i : Nat) (te : DE) (r : DR2) : DS := fun D σ G => match σ[i]? with | some (some x) => te σ G fun y G1 => r x y G1 fun z G2 => D.nx (σ.set i (some z)) G2 | _ => False
def GetD (X : Cx) (r : DR2) : Prop := PGet X (upR2 X.K r)
def dAugS (to ti te : DE) (rg rp : DR2) (rs : DSet) : DS := fun D σ G => to σ G fun o G1 => ti σ G1 fun i G2 => rg o i G2 fun x G3 => te σ G3 fun y G4 => rp x y G4 fun z G5 => rs o i z G5 fun G6 => D.nx σ G6
theorem qs_augS {o i : Expr} {to ti : DE} {rg rp : DR2} {rs : DSet} {op : Operator} {tpos : Pos} (ho : QE X o to) (hi : QE X i ti) (hg : GetD X rg) (he : QE X e te) (hp : OpD X (inplaceOp op) rp) (hs : SetD X rs)
    (ha : ∀ ov iv new, augStore i ov iv new = (do holding [new, ov, iv] (setItem ov iv new); release [new, ov, iv] []; pure .next) := by intros; rfl) : QS X (.AugAssign (.Subscript o i tpos) op e pos) (dAugS to ti te rg rp rs) :=
  ps_mono (ps_augS (tip := upR2 X.K rp) ho hi hg he (fun pins s σ H x y v u Q I r1 r2 q => hp pins s σ H x y v u Q I r1 r2 q) hs ha) fun D τ H h => by
  obtain ⟨σ, G, N, E, hs, hg, ht, q⟩ := h
  refine ⟨σ, G, N, _, hs, hg, ht, fun o G1 N1 v1 H1 h1 s1 r1 => ?_⟩
  refine ⟨σ, G1, N1, _, hs.le s1.kp, s1.rel, h1, fun i G2 N2 v2 H2 h2 s2 r2 => ?_⟩
  refine ⟨o, i, G2, N2, _, r1.le s2.kp, r2, s2.rel, h2, fun x G3 N3 v3 H3 h3 s3 r3 => ?_⟩
  have s13 := (s1.trans s2).trans s3
  refine ⟨σ, G3, N3, _, hs.le s13.kp, s3.rel, h3, fun y G4 N4 v4 H4 h4 s4 r4 => ?_⟩
  refine ⟨x, y, G4, N4, _, r3.le s4.kp, r4, s4.rel, h4, fun z G5 N5 v5 H5 h5 s5 r5 => ?_⟩
  have s25 := ((s2.trans s3).trans s4).trans s5
  have s15 := s1.trans s25
  exact ⟨o, i, z, G5, N5, _, r1.le s25.kp, r2.le ((s3.trans s4).trans s5).kp, r5, s5.rel, h5, fun G6 N6 H6 h6 s6 => q.nx _ _ _ _ _ h6 (s15.trans s6) (hs.le (s15.trans s6).kp)⟩
end
/-! ### while -/
section
variable {X : Cx} {pos : Pos}
def dWhN (c : DT) (tb : DS) (D : DEnds) : Nat → Sd → Gp → Prop
  | 0, _, _ => False
  | n + 1, σ, G => c σ G fun b G1 => match b with | true => tb { D with nx := dWhN c tb D n, ct := dWhN c tb D n, bk := D.nx } σ G1 | false => D.nx σ G1
def dWhile (c : DT) (tb : DS) : DS := fun D σ G => ∃ n, dWhN c tb D n σ G
theorem qs_while {c : Expr} {body : List Stmt} {tc : DT} {tb : DS} (hp : PassesOwn (model X.prog X.w) X.A X.env X.xe) (hc : QT X c tc) (hb : QSs X body tb) : QS X (.While c body [] pos) (dWhile tc tb) := ps_mono (ps_while hp hc hb) fun D τ H h => by
  obtain ⟨σ, G, N, E, hs, hg, ⟨n, ht⟩, q⟩ := h
  refine ⟨fun m τ' H' => ∃ σ' G' N', RSt X.K H' N' σ' τ' ∧ Stp X.K H N G H' N' G' ∧ dWhN tc tb E m σ' G', ⟨n, σ, G, N, hs, Stp.refl hg, ht⟩, ?_⟩
  rintro m τ1 H1 ⟨σ1, G1, N1, r1, s1, h1⟩
  cases m with
  | zero => exact h1.elim
  | succ m =>
    refine ⟨σ1, G1, N1, _, r1, s1.rel, h1, fun b G2 N2 H2 h2 s2 => ?_⟩
    cases b with
    | true =>
      rw [if_pos rfl]
      refine ⟨fun τ' H' => ∃ σ' G' N', RSt X.K H' N' σ' τ' ∧ Stp X.K H N G H' N' G' ∧ dWhN tc tb E m σ' G', fun τ' H' z => ⟨m, Nat.lt_succ_self m, z⟩, ?_⟩
      have s12 := s1.trans s2
      refine ⟨σ1, G2, N2, _, r1.le s2.kp, s2.rel, h2, ⟨fun σ' G' N' τ' H' h s' r => ⟨σ', G', N', r, s12.trans s', h⟩, (q.le s12).rt, fun σ' G' N' τ' H' h s' r => q.nx _ _ _ _ _ h (s12.trans s') r, fun σ' G' N' τ' H' h s' r => ⟨σ', G', N', r, s12.trans s', h⟩⟩⟩
    | false =>
      rw [if_neg Bool.false_ne_true]
      exact q.nx _ _ _ _ _ h2 (s1.trans s2) (r1.le s2.kp)
end
/-! ### what is walked -/
abbrev DI := Sd → Gp → (List D → (Gp → Prop) → Gp → Prop) → Prop
/-- J yields the things xs, one behind the other, wherever gd holds of what is known -/
structure Yl (K : PySem.W.Frag) (J : It) (H0 : Hp) (N0 : Ns) (G0 : Gp) (xs : List D) (gd : Gp → Prop) : Prop where
  go : ∀ i H N G d, Stp K H0 N0 G0 H N G → gd G → xs[i]? = some d → J.go i H ∧ ∀ x H', J.yld i H x H' → Stp K H N G H' N G ∧ RD K H' N d x
  stop : ∀ i H N G, Stp K H0 N0 G0 H N G → gd G → xs.length = i → J.stop i H
theorem Yl.of {K : PySem.W.Frag} {J : It} {H0 : Hp} {N0 : Ns} {G0 : Gp} {xs : List D} {gd : Gp → Prop} (go : ∀ i H N G d, Stp K H0 N0 G0 H N G → gd G → xs[i]? = some d → J.go i H ∧ ∀ x H', J.yld i H x H' → Stp K H N G H' N G ∧ RD K H' N d x)
    (stop : ∀ i H N G, Stp K H0 N0 G0 H N G → gd G → xs.length ≤ i → J.stop i H) : Yl K J H0 N0 G0 xs gd := ⟨go, fun i H N G s g e => stop i H N G s g (Nat.le_of_eq e)⟩
def upI (K : PySem.W.Frag) (ti : DI) : TI := fun τ H R => ∃ σ G N R', RSt K H N σ τ ∧ RelG K H N G ∧ ti σ G R' ∧ ∀ xs gd G' N' J H', R' xs gd G' → Stp K H N G H' N' G' → Yl K J H' N' G' xs gd → R J H'
def QI (X : Cx) (tg iter : Expr) (ti : DI) : Prop := PI X tg iter (upI X.K ti)
theorem pi_mono {X : Cx} {tg e : Expr} {t t' : TI} (h : PI X tg e t) (i : ∀ τ H Q, t' τ H Q → t τ H Q) : PI X tg e t' := ⟨fun pins s σ H Q I q => h.run pins s σ H Q I (i σ H Q q)⟩
def dForGo (g : DG) (tb : DS) (gd : Gp → Prop) (E : DEnds) : List D → Sd → Gp → Prop
  | [], σ, G => gd G ∧ E.nx σ G
  | x :: xs, σ, G => gd G ∧ g x σ G fun σ2 G2 => tb { E with nx := dForGo g tb gd E xs, ct := dForGo g tb gd E xs, bk := E.nx } σ2 G2
def dFor (ti : DI) (g : DG) (tb : DS) : DS := fun D σ G => ti σ G fun xs gd G1 => dForGo g tb gd D xs σ G1
section
variable {X : Cx} {tg : Expr} {pos : Pos}
theorem qs_for {iter : Expr} {body : List Stmt} {ti : DI} {g : DG} {tb : DS} (hp : PassesOwn (model X.prog X.w) X.A X.env X.xe) (hc : X.calm = true) (hi : QI X tg iter ti) (hg : QG X tg g) (hb : QSs X body tb)
    (hs : ∀ x, foldedSetIterable iter X.env x = pure x := by intro _; rfl) : QS X (.For tg iter body [] pos) (dFor ti g tb) := ps_mono (ps_for hp hc hi hg hb hs) fun D τ H h => by
  obtain ⟨σ, G, N, E, hs, hg, ht, q⟩ := h
  refine ⟨σ, G, N, _, hs, hg, ht, fun xs gd G1 N1 J H1 h1 s1 y => ?_⟩
  refine ⟨fun i m τ' H' => m = xs.length - i ∧ i ≤ xs.length ∧ ∃ σ' G' N', RSt X.K H' N' σ' τ' ∧ Stp X.K H1 N1 G1 H' N' G' ∧ dForGo g tb gd E (xs.drop i) σ' G', ⟨xs.length, rfl, Nat.zero_le _, σ, G1, N1, hs.le s1.kp, Stp.refl s1.rel, h1⟩, ?_⟩
  rintro i m τ2 H2 ⟨rfl, hi, σ2, G2, N2, r2, s2, h2⟩
  by_cases hlt : i < xs.length
  · rw [List.drop_eq_getElem_cons hlt] at h2
    obtain ⟨hgd, h2⟩ := h2
    obtain ⟨go, yld⟩ := y.go i H2 N2 G2 xs[i] s2 hgd (List.getElem?_eq_getElem hlt)
    refine .inr ⟨go, fun τ' H' => ∃ σ' G' N', RSt X.K H' N' σ' τ' ∧ Stp X.K H1 N1 G1 H' N' G' ∧ dForGo g tb gd E (xs.drop (i + 1)) σ' G', fun τ' H' z => ⟨xs.length - (i + 1), by omega, rfl, hlt, z⟩, fun x H3 hy => ?_⟩
    obtain ⟨s3, r3⟩ := yld x H3 hy
    refine ⟨xs[i], σ2, G2, N2, _, r3, r2.le s3.kp, s3.rel, h2, fun σ4 G4 N4 τ4 H4 h4 s4 r4 => ?_⟩
    have s14 := (s2.trans s3).trans s4
    refine ⟨σ4, G4, N4, _, r4, s4.rel, h4, ⟨fun σ' G' N' τ' H' h s' r => ⟨σ', G', N', r, s14.trans s', h⟩, (q.le (s1.trans s14)).rt, fun σ' G' N' τ' H' h s' r => q.nx _ _ _ _ _ h ((s1.trans s14).trans s') r, fun σ' G' N' τ' H' h s' r => ⟨σ', G', N', r, s14.trans s', h⟩⟩⟩
  · have e : i = xs.length := by omega
    subst e
    rw [List.drop_length] at h2
    exact .inl ⟨y.stop _ H2 N2 G2 s2 h2.1 rfl, q.nx _ _ _ _ _ h2.2 (s1.trans s2) r2⟩
end
/-! ### comprehensions -/
def wipeD (σ : Sd) : List Nat → Sd
  | [] => σ
  | v :: vs => (wipeD σ vs).set v none
theorem RSt.wipe {K : PySem.W.Frag} {H : Hp} {N : Ns} {σ : Sd} {τ : L2.St} (h : RSt K H N σ τ) : ∀ vs : List Nat, RSt K H N (wipeD σ vs) (L2.wipe τ vs)
  | [] => h
  | v :: vs => by
    have ih := RSt.wipe h vs
    unfold wipeD L2.wipe
    refine ⟨by rw [List.length_set, List.length_set]; exact ih.1, fun i d e => ?_⟩
    by_cases hj : v = i
    · subst hj
      rw [List.getElem?_set] at e
      simp only [if_true] at e
      split at e
      · cases e
      · cases e
    · rw [List.getElem?_set_ne hj] at e ⊢
      exact ih.2 i d e
def dLcGo (g : DG) (tt : DT) (te : DE) (gd : Gp → Prop) (σ : Sd) : List D → List D → Gp → (List D → Gp → Prop) → Prop
  | [], acc, G, Q => gd G ∧ Q acc G
  | x :: xs, acc, G, Q => gd G ∧ g x σ G fun σ2 G2 => tt σ2 G2 fun b G3 => match b with
    | true => te σ2 G3 fun y G4 => dLcGo g tt te gd σ xs (acc ++ [y]) G4 Q
    | false => dLcGo g tt te gd σ xs acc G3 Q
def dLc (mk : Bool) (ti : DI) (g : DG) (tt : DT) (te : DE) (ws : List Nat) : DE := fun σ G R => ti σ G fun xs gd G1 => xs.length ≤ sizeLine ∧ dLcGo g tt te gd (wipeD σ ws) xs [] G1 fun ds G2 => newL mk ds G2 R
def QTs (X : Cx) (ifs : List Expr) (t : DT) : Prop := PTs X ifs (upT X.K t)
def dYes : DT := fun _ G R => R true G
theorem qts_nil {X : Cx} : QTs X [] dYes := ⟨fun pins s σ H Q I h => (pts_nil (X := X)).run pins s σ H Q I (by
  obtain ⟨σ', G, N, R, hs, hg, ht, q⟩ := h
  exact q _ _ _ _ ht (Stp.refl hg))⟩
theorem up_lc {K : PySem.W.Frag} {mk : Bool} {ti : DI} {vg : TG} {g : DG} {tt : DT} {te : DE} {ws : List Nat} (tgo : TgOk K vg g ws) {τ : L2.St} {H : Hp} {Q : VK} (h : up K (dLc mk ti g tt te ws) τ H Q) : tLc (upI K ti) vg (upT K tt) (up K te) ws τ H Q := by
  obtain ⟨σ, G, N, R, hs, hg, ht, q⟩ := h
  refine ⟨σ, G, N, _, hs, hg, ht, fun xs gd G1 N1 J H1 h1 s1 y => ?_⟩
  obtain ⟨hlen, h1⟩ := h1
  intro p np
  have q1 := q.le s1
  let Q' : List D → Gp → Prop := fun ds G2 => newL mk ds G2 R
  refine ⟨fun i m H' => m = xs.length - i ∧ i ≤ xs.length ∧ ∃ acc vacc G' N', H' p = some (.lst vacc) ∧ RDs K H' N' acc vacc ∧ acc.length ≤ i ∧ G' p = none ∧ N' p ∧ Stp K H1 N1 G1 H' N' G' ∧ dLcGo g tt te gd (wipeD σ ws) (xs.drop i) acc G' Q',
    ⟨xs.length, rfl, Nat.zero_le _, [], [], G1, nadd N1 p, upd_same, RDs.nil, Nat.zero_le _, s1.rel.free np, .inl rfl, ?_, h1⟩, ?_⟩
  · refine ⟨Kp.new np, fun q x e n => ⟨by rw [upd_ne (ne_of_none e np)]; exact e, n, .inr⟩, fun a o' e => ?_⟩
    obtain ⟨x, hx, _⟩ := (s1.rel a o' e).2.here
    exact ⟨.inr (s1.rel a o' e).1, (s1.rel a o' e).2.le (Kp.new np) (upd_ne (ne_of_none hx np))⟩
  rintro i m H2 ⟨rfl, hi, acc, vacc, G2, N2, hp2, ra2, hal, gp2, nn2, s2, h2⟩
  by_cases hlt : i < xs.length
  · rw [List.drop_eq_getElem_cons hlt] at h2
    obtain ⟨hgd, h2⟩ := h2
    obtain ⟨go, yld⟩ := y.go i H2 N2 G2 xs[i] s2 hgd (List.getElem?_eq_getElem hlt)
    refine .inr ⟨go, fun H' => ∃ acc vacc G' N', H' p = some (.lst vacc) ∧ RDs K H' N' acc vacc ∧ acc.length ≤ i + 1 ∧ G' p = none ∧ N' p ∧ Stp K H1 N1 G1 H' N' G' ∧ dLcGo g tt te gd (wipeD σ ws) (xs.drop (i + 1)) acc G' Q', fun H' z => ⟨xs.length - (i + 1), by omega, rfl, hlt, z⟩, fun x H3 hy => ?_⟩
    obtain ⟨s3, r3⟩ := yld x H3 hy
    have rw3 : RSt K H3 N2 (wipeD σ ws) (L2.wipe τ ws) := (((hs.le s1.kp).le s2.kp).le s3.kp).wipe ws
    refine tgo xs[i] x (wipeD σ ws) (L2.wipe τ ws) H3 N2 G2 _ _ r3 rw3 s3.rel h2 fun σ4 τ4 h4 r4 w4 => ⟨?_, ?_⟩
    · rw [w4]
      have aux : ∀ (us vs : List Nat), (∀ v ∈ us, v ∈ vs) → L2.wipe (L2.wipe τ vs) us = L2.wipe τ vs := by
        intro us
        induction us with
        | nil => intro vs _; rfl
        | cons u us ih =>
          intro vs hv
          show (L2.wipe (L2.wipe τ vs) us).set u none = _
          rw [ih vs (fun v hv' => hv v (List.mem_cons_of_mem _ hv'))]
          have hm := hv u List.mem_cons_self
          apply List.ext_getElem?
          intro j
          by_cases hj : u = j
          · subst hj
            rw [List.getElem?_set]
            simp only [if_true]
            have hn : ∀ x, (L2.wipe τ vs)[u]? ≠ some (some x) := fun x e => (wipe_some e).2 hm
            split
            · rename_i hlt'
              rw [List.getElem?_eq_getElem hlt'] at hn ⊢
              cases e : (L2.wipe τ vs)[u] with
              | none => rfl
              | some z => exact absurd (by rw [e]) (hn z)
            · rename_i hge
              rw [List.getElem?_eq_none (by omega)]
          · rw [List.getElem?_set_ne hj]
      exact aux ws ws fun v h => h
    · refine ⟨σ4, G2, N2, _, r4, s3.rel, h4, fun b G5 N5 H5 h5 s5 => ?_⟩
      obtain ⟨hp3, gp3, _⟩ := s3.fr p _ hp2 gp2
      obtain ⟨hp5, gp5, nn5⟩ := s5.fr p _ hp3 gp3
      have s25 := (s2.trans s3).trans s5
      cases b with
      | false =>
        rw [if_neg Bool.false_ne_true]
        exact ⟨acc, vacc, G5, N5, hp5, (ra2.le s3.kp).le s5.kp, by omega, gp5, nn5 nn2, s25, h5⟩
      | true =>
        rw [if_pos rfl]
        refine ⟨σ4, G5, N5, _, r4.le s5.kp, s5.rel, h5, fun d G6 N6 v6 H6 h6 s6 r6 => ?_⟩
        obtain ⟨hp6, gp6, nn6⟩ := s6.fr p _ hp5 gp5
        have s26 := s25.trans s6
        have ra6 := ((ra2.le s3.kp).le s5.kp).le s6.kp
        have kw := Kp.write (u := .lst (vacc ++ [v6])) (nn6 (nn5 nn2)) hp6 rfl rfl
        have hl6 := ra6.length
        refine ⟨vacc, hp6, by omega, acc ++ [d], vacc ++ [v6], G6, N6, upd_same, (RDs.append ra6 (RDs.cons r6 RDs.nil)).le kw, by simp; omega, gp6, nn6 (nn5 nn2), s26.poke np hp6 gp6 (nn6 (nn5 nn2)) rfl rfl, h6⟩
  · have e : i = xs.length := by omega
    subst e
    rw [List.drop_length] at h2
    refine .inl ⟨y.stop _ H2 N2 G2 s2 h2.1 rfl, ?_⟩
    have h3 : newL mk acc G2 R := h2.2
    cases mk with
    | true =>
      refine q1 (.ref p) (gup G2 p (.lst acc)) N2 _ _ (h3 p gp2) (s2.know np nn2 ⟨vacc, hp2, ra2⟩) (RD.ref p)
    | false =>
      exact q1 (.lst acc) G2 (ndel N2 p) _ _ h3 (s2.calm (.inl np) gp2) (RD.lst (.inl ⟨hp2, fun z => z.1 rfl⟩) (ra2.le Kp.calm))
section
variable {X : Cx}
theorem qe_lc (mk : Bool) {elt tg iter : Expr} {ifs : List Expr} {scope : Scope} {own : List (Str × Nat)} {pos : Pos} {ti : DI} {vg : TG} {g : DG} {tt : DT} {te : DE} (hc : X.calm = true) (hN : X.N.Nodup) (hi : QI X tg iter ti) (ok : BlkOk X.N X.env.scope scope own)
    (hg : ∀ (s : Shared) (H : Hp) (C : Addr) (cl : List (Str × Addr)) (fp : List Addr), PG (X.blk s H scope (compEnvC scope cl C X.env) fp) tg vg) (tgo : TgOk X.K vg g (own.map (·.2)))
    (ht : ∀ (s : Shared) (H : Hp) (C : Addr) (cl : List (Str × Addr)) (fp : List Addr), QTs (X.blk s H scope (compEnvC scope cl C X.env) fp) ifs tt)
    (he : ∀ (s : Shared) (H : Hp) (C : Addr) (cl : List (Str × Addr)) (fp : List Addr), QE (X.blk s H scope (compEnvC scope cl C X.env) fp) elt te) (hs : ∀ x, foldedSetIterable iter X.env x = pure x := by intro _; rfl) :
    QE X (.ListComp elt [⟨tg, iter, ifs, 0⟩] scope pos) (dLc mk ti g tt te (own.map (·.2))) :=
  pe_mono (pe_lc (wi := upI X.K ti) (tt := upT X.K tt) (te := up X.K te) hc hN hi ok hg ht he hs) fun τ H Q h => up_lc tgo h
theorem qs_setLc (mk : Bool) {i : Nat} {y : Str} {py : Pos} {elt tg iter : Expr} {ifs : List Expr} {scope : Scope} {own : List (Str × Nat)} {pos spos : Pos} {ti : DI} {vg : TG} {g : DG} {tt : DT} {te : DE} (hc : X.calm = true) (hN : X.N.Nodup) (hy : X.N[i]? = some y) (hyl : X.env.scope.names.lookup y = some .local)
    (hsw : swapsWith (.ListComp elt [⟨tg, iter, ifs, 0⟩] scope pos) (some (.Name y py)) spos.line X.env = pure true) (hi : QI X tg iter ti) (ok : BlkOk X.N X.env.scope scope own)
    (hg : ∀ (s : Shared) (H : Hp) (C : Addr) (cl : List (Str × Addr)) (fp : List Addr), PG (X.blk s H scope (compEnvC scope cl C X.env) fp) tg vg) (tgo : TgOk X.K vg g (own.map (·.2)))
    (ht : ∀ (s : Shared) (H : Hp) (C : Addr) (cl : List (Str × Addr)) (fp : List Addr), QTs (X.blk s H scope (compEnvC scope cl C X.env) fp) ifs tt)
    (he : ∀ (s : Shared) (H : Hp) (C : Addr) (cl : List (Str × Addr)) (fp : List Addr), QE (X.blk s H scope (compEnvC scope cl C X.env) fp) elt te) (hs : ∀ x, foldedSetIterable iter X.env x = pure x := by intro _; rfl) :
    QS X (.Assign [.Name y py] (.ListComp elt [⟨tg, iter, ifs, 0⟩] scope pos) spos) (dAsg (dLc mk ti g tt te (own.map (·.2))) (dName i)) :=
  ps_mono (ps_setLc (wi := upI X.K ti) (tt := upT X.K tt) (te := up X.K te) hc hN hy hyl hsw hi ok hg ht he hs) fun D τ H h => by
    obtain ⟨σ, G, N, E, hs, hg, ht, q⟩ := h
    refine up_lc tgo ⟨σ, G, N, _, hs, hg, ht, fun d G' N' v H' h s' r => ?_⟩
    exact q.nx _ _ _ _ _ h s' ((hs.le s'.kp).set r i)
end
/-! ### defs -/
abbrev DSp := List D → Gp → DK → Prop
def upSp (K : PySem.W.Frag) (sp : DSp) : Sp := fun vs H Q _ => ∃ ds G N R, RDs K H N ds vs ∧ RelG K H N G ∧ sp ds G R ∧ UpQ K H N G R Q
/-- the def at f keeps the promise sp, by data; no exception leaves it -/
def FnD (P : Program) (w : World) (K : PySem.W.Frag) (mg : Str → Option Value) (base : Heap) (k : Nat) (f : Addr) (fd : FuncData) (ps : List Str) (sp : DSp) : Prop := FnOk P w K mg base CX0 k f fd ps (upSp K sp)
theorem FnD.mono {P : Program} {w : World} {K : PySem.W.Frag} {mg : Str → Option Value} {base : Heap} {j k : Nat} {f : Addr} {fd : FuncData} {ps : List Str} {sp : DSp} (F : FnD P w K mg base j f fd ps sp) (h : j ≤ k) : FnD P w K mg base k f fd ps sp := FnOk.mono F h
theorem FnD.imp {P : Program} {w : World} {K : PySem.W.Frag} {mg : Str → Option Value} {base : Heap} {k : Nat} {f : Addr} {fd : FuncData} {ps : List Str} {sp sp' : DSp} (F : FnD P w K mg base k f fd ps sp) (h : ∀ ds G R, sp' ds G R → sp ds G R) : FnD P w K mg base k f fd ps sp' :=
  FnOk.imp F fun vs H Q E ⟨ds, G, N, R, r1, r2, h1, q⟩ => ⟨ds, G, N, R, r1, r2, h ds G R h1, q⟩
def startD (n : Nat) (ds : List D) : Sd := ds.map some ++ List.replicate (n - ds.length) none
theorem RSt.begin {K : PySem.W.Frag} {H : Hp} {N : Ns} {M : List Str} {ds : List D} {vs : List V} (r : RDs K H N ds vs) : RSt K H N (startD M.length ds) (start M vs) := by
  have hl := r.length
  refine ⟨by unfold startD L2.start; simp; omega, fun i d e => ?_⟩
  unfold startD at e
  by_cases hi : i < ds.length
  · rw [List.getElem?_append_left (by simpa using hi), List.getElem?_map, List.getElem?_eq_getElem hi] at e
    have e' : ds[i] = d := by simpa using e
    obtain ⟨v, h1, h2⟩ := r.get (List.getElem?_eq_getElem hi)
    refine ⟨v, ?_, by rw [← e']; exact h2⟩
    unfold L2.start
    rw [List.getElem?_append_left (by rw [List.length_map]; omega), List.getElem?_map, h1]
    rfl
  · rw [List.getElem?_append_right (by simpa using hi), List.getElem?_replicate] at e
    split at e
    · cases e
    · cases e
section
variable {P : Program} {w : World} {K : PySem.W.Frag} {mg : Str → Option Value} {base : Heap}
theorem fun_okD {x qual : Str} {st : Stmt} {f : Addr} {fd : FuncData} {M ps : List Str} {k : Nat} {sp : DSp} (F : Fun K x qual st f fd) (S : FnScope M ps (defScope st)) (len : ∀ ds G R, sp ds G R → ds.length = ps.length)
    (hbody : ∀ (cdv : Value) (A : Around) (outer : List Env) (s : Shared) (H : Hp), Room k (A.deeper (envOfC qual (defScope st) s.heap.objs.size f cdv)) →
      ∃ t, QSs (cxOf CX0 P w K mg base M qual (defScope st) f cdv A outer s H E0).nox (defBody st) t ∧ ∀ (ds : List D) (G : Gp) (R : DK), sp ds G R → t { nx := fun _ G1 => ∃ G', Sub G' G1 ∧ R .non G', rt := R } (startD M.length ds) G) : FnD P w K mg base (k + 1) f fd ps sp := by
  refine F.ok S (fun vs H Q E h => ?_) (fun cdv A outer s H vs Q E hr h => ?_)
  · obtain ⟨ds, G, N, R, r1, _, h1, _⟩ := h
    rw [← r1.length]; exact len ds G R h1
  · obtain ⟨ds, G, N, R, r1, r2, h1, q⟩ := h
    obtain ⟨t, ht, hq⟩ := hbody cdv A outer s H hr
    refine ⟨upS K t, ht, startD M.length ds, G, N, _, RSt.begin r1, r2, hq ds G R h1, ⟨fun σ' G' N' τ' H' h s' r => ?_, q, fun _ _ _ _ _ h => h.elim, fun _ _ _ _ _ h => h.elim⟩⟩
    obtain ⟨G2, sb, h⟩ := h
    exact q _ _ _ _ _ h (s'.trans (s'.rel.sub sb)) RD.non
end
section
variable {X : Cx} {k : Nat} {f : Addr} {fd : FuncData} {ps : List Str} {sp : DSp} {x : Str} {p pos : Pos} {e : Expr} {es : List Expr} {t : DA}
def dCall (sp : DSp) (t : DA) : DE := fun σ G R => t σ G fun ds G1 => sp ds G1 R
theorem up_call {K : PySem.W.Frag} {τ : L2.St} {H : Hp} {Q : VK} (h : up K (dCall sp t) τ H Q) : tCall (upSp K sp) [] E0 (upA K t) τ H Q := by
  obtain ⟨σ, G, N, R, hs, hg, ht, q⟩ := h
  refine ⟨σ, G, N, _, hs, hg, ht, fun ds G1 N1 vs H1 h1 s1 r1 => ?_⟩
  show upSp K sp (vs ++ []) H1 Q E0
  rw [List.append_nil]
  exact ⟨ds, G1, N1, R, r1, s1.rel, h1, q.le s1⟩
theorem qe_call (F : FnD X.prog X.w X.K X.mg X.base k f fd ps sp) (hr : Room k X.A) (hg : Gl X x) (hm : X.mg x = some (.ref f)) (hk : PySem.W.keepIn X.K (.ref f) = true) (hb : Binds X.K fd ps []) (ha : QA X (e :: es) t)
    (hdb : (x == ("__debug__" : Str)) = false := by decide) (he : starEach (e :: es) X.env = (false, eval e X.env) :: starEach es X.env := by rfl) (hpl : (backTo pos (starEach es X.env)).any (·.1) = false := by rfl) :
    QE X (.Call (.Name x p) (e :: es) [] pos) (dCall sp t) := pe_mono (pe_call F hr hg hm hk hb .nil pass0 ha hdb he hpl) fun τ H Q h => up_call h
theorem up_cb {K : PySem.W.Frag} {r : DRn} {τ : L2.St} {H : Hp} {Q : VK} (h : up K (dCallB r t) τ H Q) : tCB (upRn K r) (upA K t) τ H Q := by
  obtain ⟨σ, G, N, R, hs, hg, ht, q⟩ := h
  refine ⟨σ, G, N, _, hs, hg, ht, fun ds G1 N1 vs H1 h1 s1 r1 => ?_⟩
  exact ⟨ds, G1, N1, R, r1, s1.rel, h1, q.le s1⟩
theorem qe_callB {id : String} {r : DRn} (hc : CallD X (.builtin id) r) (hg : Gl X x) (hm : X.mg x = none) (hv : bootBuiltins x = some (.builtin id)) (ha : QA X (e :: es) t) (hn : x ≠ "__name__" := by decide) (hdb : (x == ("__debug__" : Str)) = false := by decide)
    (he : starEach (e :: es) X.env = (false, eval e X.env) :: starEach es X.env := by rfl) (hpl : (backTo pos (starEach es X.env)).any (·.1) = false := by rfl) : QE X (.Call (.Name x p) (e :: es) [] pos) (dCallB r t) :=
  pe_mono (pe_callB hc hg hm hv ha hn hdb he hpl) fun τ H Q h => up_cb h
theorem qe_callTy {id : String} {r : DRn} (hc : CallD X (.type id) r) (hg : Gl X x) (hm : X.mg x = none) (hv : bootBuiltins x = some (.type id)) (ha : QA X (e :: es) t) (hn : x ≠ "__name__" := by decide) (hdb : (x == ("__debug__" : Str)) = false := by decide)
    (he : starEach (e :: es) X.env = (false, eval e X.env) :: starEach es X.env := by rfl) (hpl : (backTo pos (starEach es X.env)).any (·.1) = false := by rfl) : QE X (.Call (.Name x p) (e :: es) [] pos) (dCallB r t) :=
  pe_mono (pe_callTy hc hg hm hv ha hn hdb he hpl) fun τ H Q h => up_cb h
end
end DL

set_option Elab.async false
set_option linter.all false
set_option maxRecDepth 100000
set_option maxHeartbeats 4000000
set_option autoImplicit false
namespace DL
open PySem PySem.Spec PyProof.Rows L2

/-! ### lists by data -/
def lstOf (G : Gp) : D → Option (List D)
  | .lst ds => some ds
  | .ref a => match G a with | some (.lst ds) => some ds | _ => none
  | _ => none
theorem lstOf_ok {K : PySem.W.Frag} {H : Hp} {N : Ns} {G : Gp} {d : D} {v : V} {ds : List D} (rg : RelG K H N G) (rd : RD K H N d v) (h : lstOf G d = some ds) : ∃ p vs, v = .ref p ∧ SqL K H p vs ∧ RDs K H N ds vs := by
  cases d with
  | lst es =>
    obtain ⟨p, vs, rfl, l, r⟩ := rd.of_lst
    cases h
    exact ⟨p, vs, rfl, l.sq, r⟩
  | ref a =>
    obtain rfl := rd.of_ref
    unfold lstOf at h
    simp only at h
    split at h
    · rename_i es e
      cases h
      obtain ⟨_, vs, hv, r⟩ := rg a _ e
      exact ⟨a, vs, rfl, SqL.of hv, r⟩
    · cases h
  | _ => cases h
section
variable {X : Cx}
/-! ### list + list, whatever lists -/
def rCatL (K : PySem.W.Frag) : R2 := fun x y H Q => ∃ l b xs zs, x = .ref l ∧ y = .ref b ∧ SqL K H l xs ∧ SqL K H b zs ∧ xs.length + zs.length ≤ sizeLine ∧ ∀ p, H p = none → Q (.ref p) (upd H p (.lst (xs ++ zs)))
theorem op_catL : OpR X (binaryOp .Add) (rCatL X.K) := by
  intro pins s σ H x y v u Q I rx ry h
  obtain ⟨l, b, xs, zs, rfl, rfl, hH, hB, hz, q⟩ := h
  cases rx
  cases ry
  obtain ⟨its, r, pl, _⟩ := I.list hH
  obtain ⟨its2, r2, pl2, _⟩ := I.list hB
  obtain ⟨⟨cls, dd, data, sl⟩, ho, hc, n, hd⟩ := pl.isList
  obtain ⟨⟨cls2, dd2, data2, sl2⟩, ho2, hc2, n2, hd2⟩ := pl2.isList
  simp only at hc hd hc2 hd2
  subst hc hd hc2 hd2
  have hl := r.length
  have hl2 := r2.length
  have e : its.toArray ++ its2.toArray = (its ++ its2).toArray := by simp
  refine concat_meets ⟨_, ho, rfl⟩ ⟨_, ho2, rfl⟩ noFill_list_add seq_list_add PySem.F.slot_list_add PySem.F.entry_list_add (PySem.F.args_list_add_2 _ _) (list_addW l b its.toArray its2.toArray n n2 dd dd2 sl sl2 (by simp; omega)) ⟨ho, ho2, ?_⟩
  rw [e]
  exact ⟨.ref _, _, I.lnew (t' := s.toks) (r.append r2) (by rw [List.length_append]; omega), rfl, q _ I.fresh⟩
/-! ### arithmetic -/
theorem op_mulX : OpR X (binaryOp .Mult) (rI IntMulOk fun i j => .int (i * j)) := opI fun _ _ _ _ _ _ _ hc q => mul_int q hc
def CPowX (i j : Int) : Prop := 0 ≤ j ∧ (Builtin.Int.intBits i : Int) * j ≤ 2 ^ 27
theorem op_powX : OpR X (binaryOp .Pow) (rI CPowX fun i j => .int (i ^ j.toNat)) := opI fun _ _ _ _ _ _ _ hc q => pow_int hc.1 hc.2 q
def dAdd (mk : Bool) : DR2 := fun x y G R => match x, y with
  | .int i, .int j => R (.int (i + j)) G
  | .str a, .str b => a.length + b.length ≤ sizeLine ∧ R (.str (a ++ b)) G
  | .tup a, .tup b => a.length + b.length ≤ sizeLine ∧ R (.tup (a ++ b)) G
  | x, y => match lstOf G x, lstOf G y with | some a, some b => a.length + b.length ≤ sizeLine ∧ newL mk (a ++ b) G R | _, _ => False
theorem od_add (mk : Bool) : OpD X (binaryOp .Add) (dAdd mk) := opr_mono (op_add.or (op_add_str.or (op_catA.or op_catL))) fun x y H Q h => by
  obtain ⟨c, d, G, N, R, r1, r2, rg, h, q⟩ := h
  unfold dAdd at h
  split at h
  · rename_i i j
    obtain rfl := r1.of_int
    obtain rfl := r2.of_int
    exact .inl ⟨i, j, rfl, rfl, q.at rg h (RD.int _)⟩
  · rename_i i j
    obtain rfl := r1.of_str
    obtain rfl := r2.of_str
    exact .inr (.inl ⟨i, j, rfl, rfl, h.1, q.at rg h.2 (RD.str _)⟩)
  · rename_i a b
    obtain ⟨p, vs, rfl, s1, d1⟩ := r1.of_tup
    obtain ⟨p2, vs2, rfl, s2, d2⟩ := r2.of_tup
    have l1 := d1.length
    have l2 := d2.length
    refine .inr (.inr (.inl ⟨p, p2, vs, vs2, rfl, rfl, s1, s2, by omega, fun e => ?_, fun e e2 => ?_, fun e e2 p np => ?_⟩))
    · subst e
      have e3 : a = [] := List.eq_nil_of_length_eq_zero (by simpa using l1)
      subst e3
      exact q.at rg h.2 (RD.tup s2 d2)
    · subst e2
      have e3 : b = [] := List.eq_nil_of_length_eq_zero (by simpa using l2)
      subst e3
      rw [List.append_nil] at h
      exact q.at rg h.2 (RD.tup s1 d1)
    · exact newT_ok rg (d1.append d2) h.2 q np
  · split at h
    · rename_i a b ea eb
      obtain ⟨p, vs, rfl, s1, d1⟩ := lstOf_ok rg r1 ea
      obtain ⟨p2, vs2, rfl, s2, d2⟩ := lstOf_ok rg r2 eb
      have l1 := d1.length
      have l2 := d2.length
      exact .inr (.inr (.inr ⟨p, p2, vs, vs2, rfl, rfl, s1, s2, by omega, fun p np => newL_ok rg (d1.append d2) h.2 q np⟩))
    · exact h.elim
/-- two ints, under C -/
def dI (C : Int → Int → Prop) (g : Int → Int → D) : DR2 := fun x y G R => match x, y with | .int i, .int j => C i j ∧ R (g i j) G | _, _ => False
def dI0 (g : Int → Int → D) : DR2 := fun x y G R => match x, y with | .int i, .int j => R (g i j) G | _, _ => False
theorem od_I {f : Value → Value → Sem Value} {C : Int → Int → Prop} {g : Int → Int → Int} (h : OpR X f (rI C fun i j => .int (g i j))) : OpD X f (dI C fun i j => .int (g i j)) := opr_mono h fun x y H Q h => by
  obtain ⟨c, d, G, N, R, r1, r2, rg, h, q⟩ := h
  unfold dI at h
  split at h
  · obtain rfl := r1.of_int
    obtain rfl := r2.of_int
    exact ⟨_, _, rfl, rfl, h.1, q.at rg h.2 (RD.int _)⟩
  · exact h.elim
theorem od_I0 {f : Value → Value → Sem Value} {g : Int → Int → Int} (h : OpR X f (rI0 fun i j => .int (g i j))) : OpD X f (dI0 fun i j => .int (g i j)) := opr_mono h fun x y H Q h => by
  obtain ⟨c, d, G, N, R, r1, r2, rg, h, q⟩ := h
  unfold dI0 at h
  split at h
  · obtain rfl := r1.of_int
    obtain rfl := r2.of_int
    exact ⟨_, _, rfl, rfl, q.at rg h (RD.int _)⟩
  · exact h.elim
def dMinus : DR2 := dI0 fun i j => .int (i - j)
def dMul : DR2 := dI IntMulOk fun i j => .int (i * j)
def dFdiv : DR2 := dI CDivW fun i j => .int (i / j)
def dMod : DR2 := dI (fun _ j => 0 < j) fun i j => .int (i % j)
def dPow : DR2 := dI CPowX fun i j => .int (i ^ j.toNat)
def dShl : DR2 := dI CShl fun i j => .int (i * 2 ^ j.toNat)
theorem od_sub : OpD X (binaryOp .Sub) dMinus := od_I0 op_sub
theorem od_mul : OpD X (binaryOp .Mult) dMul := od_I op_mulX
theorem od_fdiv : OpD X (binaryOp .FloorDiv) dFdiv := od_I op_fdivW
theorem od_mod : OpD X (binaryOp .Mod) dMod := od_I op_mod
theorem od_pow : OpD X (binaryOp .Pow) dPow := od_I op_powX
theorem od_shl : OpD X (binaryOp .LShift) dShl := od_I op_shlW
/-- += of ints, texts -/
def dIadd : DR2 := fun x y G R => match x, y with
  | .int i, .int j => R (.int (i + j)) G
  | .str a, .str b => a.length + b.length ≤ sizeLine ∧ R (.str (a ++ b)) G
  | _, _ => False
theorem od_iadd : OpD X (inplaceOp .Add) dIadd := opr_mono (iop_add.or iop_add_str) fun x y H Q h => by
  obtain ⟨c, d, G, N, R, r1, r2, rg, h, q⟩ := h
  unfold dIadd at h
  split at h
  · obtain rfl := r1.of_int
    obtain rfl := r2.of_int
    exact .inl ⟨_, _, rfl, rfl, q.at rg h (RD.int _)⟩
  · obtain rfl := r1.of_str
    obtain rfl := r2.of_str
    exact .inr ⟨_, _, rfl, rfl, h.1, q.at rg h.2 (RD.str _)⟩
  · exact h.elim
def dNeg : DR1 := fun x G R => match x with | .int i => R (.int (-i)) G | _ => False
theorem od_neg : UnD X (unaryOp .USub) dNeg := unr_mono un_neg fun x H Q h => by
  obtain ⟨c, G, N, R, r1, rg, h, q⟩ := h
  unfold dNeg at h
  split at h
  · obtain rfl := r1.of_int
    exact ⟨_, rfl, q.at rg h (RD.int _)⟩
  · exact h.elim
/-! ### comparisons -/
/-- the order of ints and of texts -/
def dOrd (pi : Int → Int → Bool) (ps : Str → Str → Bool) : DR2 := fun x y G R => match x, y with
  | .int i, .int j => R (.bl (pi i j)) G
  | .str a, .str b => R (.bl (ps a b)) G
  | _, _ => False
theorem od_ord {f : Value → Value → Sem Value} {pi : Int → Int → Bool} {ps : Str → Str → Bool} (h1 : OpR X f (rI0 fun i j => .bl (pi i j))) (h2 : OpR X f (fun x y H Q => ∃ i j, x = .str i ∧ y = .str j ∧ Q (.bl (ps i j)) H)) : OpD X f (dOrd pi ps) := opr_mono (h1.or h2) fun x y H Q h => by
  obtain ⟨c, d, G, N, R, r1, r2, rg, h, q⟩ := h
  unfold dOrd at h
  split at h
  · obtain rfl := r1.of_int
    obtain rfl := r2.of_int
    exact .inl ⟨_, _, rfl, rfl, q.at rg h (RD.bl _)⟩
  · obtain rfl := r1.of_str
    obtain rfl := r2.of_str
    exact .inr ⟨_, _, rfl, rfl, q.at rg h (RD.bl _)⟩
  · exact h.elim
def sLt (a b : Str) : Bool := decide (a.cps.toList < b.cps.toList)
def dLt : DR2 := dOrd (fun i j => decide (i < j)) fun a b => sLt a b
def dLe : DR2 := dOrd (fun i j => decide (i ≤ j)) fun a b => !sLt b a
def dGt : DR2 := dOrd (fun i j => decide (j < i)) fun a b => sLt b a
def dGe : DR2 := dOrd (fun i j => decide (j ≤ i)) fun a b => !sLt a b
theorem od_lt : OpD X (compareOp .Lt) dLt := od_ord op_lt op_lt_str
theorem od_le : OpD X (compareOp .LtE) dLe := od_ord op_le op_le_str
theorem od_gt : OpD X (compareOp .Gt) dGt := od_ord op_gt op_gt_str
mutual
def toPy : D → Option PyData
  | .non => some .none
  | .bl b => some (.bool b)
  | .int i => some (.int i)
  | .str x => some (.str x)
  | .tup ds => (toPys ds).map .tuple
  | .lst ds => (toPys ds).map .list
  | _ => none
def toPys : List D → Option (List PyData)
  | [] => some []
  | d :: ds => match toPy d, toPys ds with | some a, some b => some (a :: b) | _, _ => none
end
mutual
theorem toPy_ok {K : PySem.W.Frag} {H : Hp} {N : Ns} : ∀ {d : D} {v : V} {a : PyData}, RD K H N d v → toPy d = some a → Dp K H v a
  | .non, _, _, r, h => by simp only [toPy] at h; cases h; rw [r.of_non]; exact .non
  | .bl b, _, _, r, h => by simp only [toPy] at h; cases h; rw [r.of_bl]; exact .bl b
  | .int b, _, _, r, h => by simp only [toPy] at h; cases h; rw [r.of_int]; exact .int b
  | .str b, _, _, r, h => by simp only [toPy] at h; cases h; rw [r.of_str]; exact .str b
  | .tup ds, _, _, r, h => by
    simp only [toPy] at h
    obtain ⟨p, vs, rfl, s, q⟩ := r.of_tup
    cases e : toPys ds with
    | none => rw [e] at h; cases h
    | some as => rw [e] at h; cases h; exact .tup s (toPys_ok q e)
  | .lst ds, _, _, r, h => by
    simp only [toPy] at h
    obtain ⟨p, vs, rfl, s, q⟩ := r.of_lst
    cases e : toPys ds with
    | none => rw [e] at h; cases h
    | some as => rw [e] at h; cases h; exact .lst s.sq (toPys_ok q e)
  | .nt _, _, _, r, h => by simp only [toPy] at h; cases h
  | .ty _, _, _, r, h => by simp only [toPy] at h; cases h
  | .ref _, _, _, r, h => by simp only [toPy] at h; cases h
  | .any _, _, _, r, h => by simp only [toPy] at h; cases h
theorem toPys_ok {K : PySem.W.Frag} {H : Hp} {N : Ns} : ∀ {ds : List D} {vs : List V} {as : List PyData}, RDs K H N ds vs → toPys ds = some as → DpAll K H vs as
  | [], _, _, r, h => by simp only [toPys] at h; cases h; rw [r.of_nil]; exact .nil
  | d :: ds, _, _, r, h => by
    obtain ⟨v, vs, rfl, r1, r2⟩ := r.of_cons
    simp only [toPys] at h
    split at h
    · rename_i a b ea eb
      cases h
      exact .cons (toPy_ok r1 ea) (toPys_ok r2 eb)
    · cases h
end
def gPy (G : Gp) (d : D) : Option PyData := match d with
  | .ref a => match G a with | some (.lst ds) => (toPys ds).map .list | _ => none
  | d => toPy d
theorem gPy_ok {K : PySem.W.Frag} {H : Hp} {N : Ns} {G : Gp} {d : D} {v : V} {a : PyData} (rg : RelG K H N G) (r : RD K H N d v) (h : gPy G d = some a) : Dp K H v a := by
  unfold gPy at h
  split at h
  · rename_i p
    split at h
    · rename_i ds e
      obtain ⟨_, vs, hv, rd⟩ := rg p _ e
      rw [r.of_ref]
      cases e2 : toPys ds with
      | none => rw [e2] at h; cases h
      | some as => rw [e2] at h; cases h; exact .lst (SqL.of hv) (toPys_ok rd e2)
    · cases h
  · exact toPy_ok r h
/-- ==, as a bool of the answer -/
def dEqW (f : Bool → Bool) : DR2 := fun x y G R => match x, y with
  | .int i, .int j => R (.bl (f (decide (i = j)))) G
  | .str i, .str j => R (.bl (f (decide (i = j)))) G
  | .bl i, .bl j => R (.bl (f (decide (i = j)))) G
  | .non, .non => R (.bl (f true)) G
  | x, y => match gPy G x, gPy G y with | some a, some b => SeqAt.shaped a = true ∧ SeqAt.shaped b = true ∧ R (.bl (f (PyData.eqv a b))) G | _, _ => False
theorem dec_int' {i j : Int} : decide (V.int i = V.int j) = decide (i = j) := by rw [Bool.eq_iff_iff]; simp
theorem dec_str' {i j : Str} : decide (V.str i = V.str j) = decide (i = j) := by rw [Bool.eq_iff_iff]; simp
theorem dec_bl' {i j : Bool} : decide (V.bl i = V.bl j) = decide (i = j) := by rw [Bool.eq_iff_iff]; simp
theorem od_eqW {f : Value → Value → Sem Value} {g : Bool → Bool} {H0 : Prop} (h1 : OpR X f (fun x y H Q => scal x y = true ∧ Q (.bl (g (decide (x = y)))) H))
    (h2 : OpR X f (fun x y H Q => ∃ d e, Dp X.K H x d ∧ Dp X.K H y e ∧ SeqAt.shaped d = true ∧ SeqAt.shaped e = true ∧ Q (.bl (g (PyData.eqv d e))) H)) : OpD X f (dEqW g) := opr_mono (h1.or h2) fun x y H Q h => by
  obtain ⟨c, d, G, N, R, r1, r2, rg, h, q⟩ := h
  unfold dEqW at h
  split at h
  · obtain rfl := r1.of_int
    obtain rfl := r2.of_int
    exact .inl ⟨rfl, by rw [dec_int']; exact q.at rg h (RD.bl _)⟩
  · obtain rfl := r1.of_str
    obtain rfl := r2.of_str
    exact .inl ⟨rfl, by rw [dec_str']; exact q.at rg h (RD.bl _)⟩
  · obtain rfl := r1.of_bl
    obtain rfl := r2.of_bl
    exact .inl ⟨rfl, by rw [dec_bl']; exact q.at rg h (RD.bl _)⟩
  · obtain rfl := r1.of_non
    obtain rfl := r2.of_non
    exact .inl ⟨rfl, by simpa using q.at rg h (RD.bl _)⟩
  · split at h
    · rename_i a b ea eb
      exact .inr ⟨a, b, gPy_ok rg r1 ea, gPy_ok rg r2 eb, h.1, h.2.1, q.at rg h.2.2 (RD.bl _)⟩
    · exact h.elim
def dEq : DR2 := dEqW id
def dNe : DR2 := dEqW not
theorem od_eq (hu : X.A.units + 64 < cLine) : OpD X (compareOp .Eq) dEq := od_eqW (H0 := True) (opr_mono op_eq fun _ _ _ _ h => h) (opr_mono (op_eqD hu) fun _ _ _ _ h => h)
theorem od_ne (hu : X.A.units + 64 < cLine) : OpD X (compareOp .NotEq) dNe := od_eqW (H0 := True) (opr_mono op_ne fun _ _ _ _ h => h) (opr_mono (op_neD hu) fun _ _ _ _ h => h)
/-- is None -/
def isNon : D → Bool | .non => true | _ => false
theorem isNon_ok {K : PySem.W.Frag} {H : Hp} {N : Ns} {d : D} {v : V} (r : RD K H N d v) : decide (v = .non) = isNon d := by
  cases d with
  | non => rw [r.of_non]; rfl
  | bl b => rw [r.of_bl]; rfl
  | int b => rw [r.of_int]; rfl
  | str b => rw [r.of_str]; rfl
  | ty b => rw [r.of_ty]; rfl
  | ref b => rw [r.of_ref]; rfl
  | any b => obtain ⟨a, u, rfl, _⟩ := r.of_any; rfl
  | nt b => obtain ⟨a, rfl, _⟩ := r.of_nt; rfl
  | tup b => obtain ⟨a, u, rfl, _⟩ := r.of_tup; rfl
  | lst b => obtain ⟨a, u, rfl, _⟩ := r.of_lst; rfl
def dIs : DR2 := fun x y G R => match y with | .non => R (.bl (isNon x)) G | _ => False
def dIsNot : DR2 := fun x y G R => match y with | .non => R (.bl (!isNon x)) G | _ => False
theorem od_is : OpD X (compareOp .Is) dIs := opr_mono op_isN fun x y H Q h => by
  obtain ⟨c, d, G, N, R, r1, r2, rg, h, q⟩ := h
  unfold dIs at h
  split at h
  · exact ⟨r2.of_non, by rw [isNon_ok r1]; exact q.at rg h (RD.bl _)⟩
  · exact h.elim
/-! ### in -/
def flatD : D → Bool
  | .non => true | .bl _ => true | .int _ => true | .str _ => true | _ => false
def eqF : D → D → Bool
  | .non, .non => true
  | .bl a, .bl b => a == b
  | .bl a, .int b => (if a then 1 else 0) == b
  | .int a, .bl b => a == (if b then 1 else 0)
  | .int a, .int b => a == b
  | .str a, .str b => a == b
  | _, _ => false
def flatTo : D → V
  | .bl b => .bl b | .int b => .int b | .str b => .str b | _ => .non
theorem flat_ok {K : PySem.W.Frag} {H : Hp} {N : Ns} {d : D} {v : V} (r : RD K H N d v) (f : flatD d = true) : v = flatTo d := by
  cases d with
  | non => exact r.of_non
  | bl b => exact r.of_bl
  | int b => exact r.of_int
  | str b => exact r.of_str
  | _ => cases f
theorem flats_ok {K : PySem.W.Frag} {H : Hp} {N : Ns} : ∀ {ds : List D} {vs : List V}, RDs K H N ds vs → ds.all flatD = true → vs = ds.map flatTo
  | [], _, r, _ => r.of_nil
  | d :: ds, _, r, f => by
    obtain ⟨v, vs, rfl, r1, r2⟩ := r.of_cons
    simp only [List.all_cons, Bool.and_eq_true] at f
    rw [flat_ok r1 f.1, flats_ok r2 f.2]; rfl
theorem flatV_to {d : D} (f : flatD d = true) : flatV (flatTo d) = true := by cases d <;> rfl
theorem eqV_to {c d : D} (f : flatD c = true) (g : flatD d = true) : eqV (flatTo c) (flatTo d) = eqF c d := by
  cases c <;> cases d <;> first | rfl | (simp [flatD] at f; done) | (simp [flatD] at g; done)
def inF (x : D) (ds : List D) : Bool := ds.any fun y => eqF y x
theorem inV_to {x : D} (f : flatD x = true) : ∀ {ds : List D}, ds.all flatD = true → inV (flatTo x) (ds.map flatTo) = inF x ds
  | [], _ => rfl
  | d :: ds, h => by
    simp only [List.all_cons, Bool.and_eq_true] at h
    have ih := inV_to f h.2
    unfold inV inF at ih ⊢
    rw [List.map_cons, List.any_cons, List.any_cons, eqV_to h.1 f, ih]
theorem flatsV_to : ∀ {ds : List D}, ds.all flatD = true → (ds.map flatTo).all flatV = true
  | [], _ => rfl
  | d :: ds, h => by
    simp only [List.all_cons, Bool.and_eq_true] at h
    rw [List.map_cons, List.all_cons, flatV_to h.1, flatsV_to h.2]; rfl
/-- the things of a list or tuple -/
def seqOf (G : Gp) : D → Option (List D)
  | .tup ds => some ds
  | .nt zs => some (zs.map .str)
  | d => lstOf G d
theorem seqOf_ok {K : PySem.W.Frag} {H : Hp} {N : Ns} {G : Gp} {d : D} {v : V} {ds : List D} (rg : RelG K H N G) (rd : RD K H N d v) (h : seqOf G d = some ds) : ∃ p vs, v = .ref p ∧ (SqL K H p vs ∨ SqT K H p vs) ∧ RDs K H N ds vs := by
  unfold seqOf at h
  split at h
  · cases h
    obtain ⟨p, vs, rfl, s, r⟩ := rd.of_tup
    exact ⟨p, vs, rfl, .inr s, r⟩
  · rename_i zs
    cases h
    obtain ⟨p, rfl, s⟩ := rd.of_nt
    exact ⟨p, _, rfl, .inr s.sq, RDs.strs zs⟩
  · obtain ⟨p, vs, rfl, s, r⟩ := lstOf_ok rg rd h
    exact ⟨p, vs, rfl, .inl s, r⟩
def strIn (a b : Str) : Bool := !(Builtin.Str.occurrences b a 0 b.length 1).isEmpty
def dInW (f : Bool → Bool) : DR2 := fun x y G R => match x, y with
  | .str a, .str b => match a.cps.toList with | [c] => R (.bl (f (decide (c ∈ b.cps.toList)))) G | _ => R (.bl (f (strIn a b))) G
  | x, y => match seqOf G y with | some ds => flatD x = true ∧ ds.all flatD = true ∧ R (.bl (f (inF x ds))) G | none => False
theorem str_one {a : Str} {c : Nat} (h : a.cps.toList = [c]) : a = ⟨#[c]⟩ := by
  cases a with
  | mk cps => simp only at h; congr 1; apply Array.toList_inj.mp; simpa using h
theorem od_inW {f : Value → Value → Sem Value} {g : Bool → Bool} (h1 : OpR X f (fun x y H Q => ∃ (c : Nat) (z : Str), x = .str ⟨#[c]⟩ ∧ y = .str z ∧ Q (.bl (g (decide (c ∈ z.cps.toList)))) H))
    (h2 : OpR X f (fun x y H Q => ∃ i j, x = .str i ∧ y = .str j ∧ Q (.bl (g (!(Builtin.Str.occurrences j i 0 j.length 1).isEmpty))) H))
    (h3 : OpR X f (fun x y H Q => ∃ p xs, y = .ref p ∧ (SqL X.K H p xs ∨ SqT X.K H p xs) ∧ flatV x = true ∧ xs.all flatV = true ∧ Q (.bl (g (inV x xs))) H)) : OpD X f (dInW g) := opr_mono (h1.or (h2.or h3)) fun x y H Q h => by
  obtain ⟨c, d, G, N, R, r1, r2, rg, h, q⟩ := h
  unfold dInW at h
  split at h
  · rename_i a b
    obtain rfl := r1.of_str
    obtain rfl := r2.of_str
    split at h
    · rename_i c e
      exact .inl ⟨c, b, by rw [str_one e], rfl, q.at rg h (RD.bl _)⟩
    · exact .inr (.inl ⟨a, b, rfl, rfl, q.at rg h (RD.bl _)⟩)
  · split at h
    · rename_i ds e
      obtain ⟨p, vs, rfl, s, r⟩ := seqOf_ok rg r2 e
      have e1 := flat_ok r1 h.1
      have e2 := flats_ok r h.2.1
      subst e1 e2
      refine .inr (.inr ⟨p, _, rfl, s, flatV_to h.1, flatsV_to h.2.1, ?_⟩)
      rw [inV_to h.1 h.2.1]
      exact q.at rg h.2.2 (RD.bl _)
    · exact h.elim
def dIn : DR2 := dInW id
def dNotIn : DR2 := dInW not
theorem od_in : OpD X (compareOp .In) dIn := od_inW (opr_mono op_in_sign fun _ _ _ _ h => h) (opr_mono op_in_str fun _ _ _ _ h => h) (opr_mono op_in_seq fun _ _ _ _ h => by
  obtain ⟨p, xs, a, b, c, d, e⟩ := h
  exact ⟨p, xs, a, b, c, d, by simpa using e⟩)
theorem od_notIn : OpD X (compareOp .NotIn) dNotIn := od_inW (opr_mono op_notIn_sign fun _ _ _ _ h => h) (opr_mono op_notin_str fun _ _ _ _ h => h) (opr_mono op_notIn_seq fun _ _ _ _ h => by
  obtain ⟨p, xs, a, b, c, d, e⟩ := h
  exact ⟨p, xs, a, b, c, d, by simpa using e⟩)
/-! ### subscripts -/
def dIx : DR2 := fun x y G R => match x, y with
  | .str z, .int i => z.length ≤ sizeLine ∧ (match atI z.cps.toList i with | some c => R (.str ⟨#[c]⟩) G | none => False)
  | x, .int i => match seqOf G x with | some ds => (match atI ds i with | some d => R d G | none => False) | none => False
  | _, _ => False
theorem atI_rd {K : PySem.W.Frag} {H : Hp} {N : Ns} {ds : List D} {vs : List V} {i : Int} {d : D} (r : RDs K H N ds vs) (h : atI ds i = some d) : ∃ v, atI vs i = some v ∧ RD K H N d v := by
  unfold atI at h ⊢
  rw [← r.length]
  cases e : ixN ds.length i with
  | none => rw [e] at h; cases h
  | some j =>
    rw [e] at h
    obtain ⟨v, h1, h2⟩ := r.get (i := j) (d := d) h
    exact ⟨v, h1, h2⟩
theorem xd_ix : IxD X dIx := ixr_mono ix_seq fun x y H Q h => by
  obtain ⟨c, d, G, N, R, r1, r2, rg, h, q⟩ := h
  unfold dIx at h
  split at h
  · rename_i z i
    obtain rfl := r1.of_str
    obtain rfl := r2.of_int
    obtain ⟨hz, h⟩ := h
    split at h
    · rename_i c e
      exact .inr (.inr ⟨z, i, c, rfl, rfl, hz, e, q.at rg h (RD.str _)⟩)
    · exact h.elim
  · rename_i i _
    obtain rfl := r2.of_int
    split at h
    · rename_i ds e
      obtain ⟨p, vs, rfl, s, r⟩ := seqOf_ok rg r1 e
      split at h
      · rename_i d ed
        obtain ⟨v, hv, rv⟩ := atI_rd r ed
        rcases s with s | s
        · exact .inl ⟨p, vs, i, v, rfl, rfl, s, hv, q.at rg h rv⟩
        · exact .inr (.inl ⟨p, vs, i, v, rfl, rfl, s, hv, q.at rg h rv⟩)
      · exact h.elim
    · exact h.elim
  · exact h.elim
/-- a list's item stored -/
def dSetI : DSet := fun o i v G R => match o, i with
  | .ref a, .int k => match G a with | some (.lst ds) => (match ixN ds.length k with | some j => R (gup G a (.lst (ds.set j v))) | none => False) | _ => False
  | _, _ => False
theorem sd_set : SetD X dSetI := by
  intro pins s σ H o i v ov iv u Q I ro ri rv h
  refine set_list pins s σ H o i v ov iv u Q I ro ri rv ?_
  obtain ⟨c, d, e, G, N, R, r1, r2, r3, rg, h, q⟩ := h
  unfold dSetI at h
  split at h
  · rename_i a k
    obtain rfl := r1.of_ref
    obtain rfl := r2.of_int
    split at h
    · rename_i ds ea
      split at h
      · rename_i j ej
        obtain ⟨_, vs, hv, r⟩ := rg a _ ea
        refine ⟨a, vs, k, j, rfl, rfl, hv, by rw [← r.length]; exact ej, ?_⟩
        refine q _ N _ h (Stp.write (u := .lst (vs.set j v)) rg ea hv rfl rfl ⟨_, upd_same, ?_⟩)
        exact (RDs.set r3 j r).le (Kp.write (u := .lst (vs.set j v)) (rg a _ ea).1 hv rfl rfl)
      · exact h.elim
    · exact h.elim
  · exact h.elim
def dGetI : DR2 := fun x y G R => match x, y with
  | .ref a, .int i => (match G a with | some (.lst ds) => (match atI ds i with | some d => R d G | none => False) | _ => False)
  | _, _ => False
theorem gd_ix : GetD X dGetI := by
  intro pins s σ H o i ov iv Q I ro ri h
  obtain ⟨c, d, G, N, R, r1, r2, rg, h, q⟩ := h
  unfold dGetI at h
  split at h
  · rename_i a k
    obtain rfl := r1.of_ref
    obtain rfl := r2.of_int
    split at h
    · rename_i ds ea
      split at h
      · rename_i d ed
        obtain ⟨_, vs, hv, r⟩ := rg a _ ea
        obtain ⟨v, hv2, rv⟩ := atI_rd r ed
        cases ro
        obtain ⟨t, rfl⟩ := ri
        obtain ⟨its, rr, pl, hz⟩ := I.list (SqL.of hv)
        obtain ⟨j, h1, h2, h3, h4, h5⟩ := atI_get hv2
        obtain ⟨w, ew, ru⟩ := rr.get h2
        have hl := rr.length
        have hn := line63
        have fin : EP X pins σ Q w s := ⟨v, H, I, ru, q.at rg h rv⟩
        by_cases h0 : 0 ≤ k
        · have hj : k.toNat = j := by
            rw [seqIndex_of h0 h5] at h1
            exact Option.some.inj h1
          exact wpAny_getItem_list pl.isList h0 (by omega) (by rw [hj]; simpa using ew) fin
        · have hj : (k + (its.toArray.size : Int)).toNat = j := by
            rw [seqIndex_neg (by omega) h4] at h1
            rw [List.size_toArray, ← hl]
            exact Option.some.inj h1
          exact wpAny_getItem_list_neg pl.isList (by omega) (by rw [List.size_toArray] <;> omega) (by omega) (by rw [hj]; simpa using ew) fin
      · exact h.elim
    · exact h.elim
  · exact h.elim
end
end DL

set_option Elab.async false
set_option linter.all false
set_option maxRecDepth 100000
set_option maxHeartbeats 4000000
set_option autoImplicit false
namespace DL
open PySem PySem.Spec PyProof.Rows L2

/-! ### slices -/
abbrev DO := Sd → Gp → (Option Int → Gp → Prop) → Prop
def upO (K : PySem.W.Frag) (t : DO) : TO := fun τ H Q => ∃ σ G N R, RSt K H N σ τ ∧ RelG K H N G ∧ t σ G R ∧ ∀ o G' N' H', R o G' → Stp K H N G H' N' G' → Q o H'
def QO (X : Cx) (e : Option Expr) (t : DO) : Prop := PO X e (upO X.K t)
def dNoPart : DO := fun _ G R => R none G
def dPart (t : DE) : DO := fun σ G R => t σ G fun x G1 => match x with | .int i => R (some i) G1 | _ => False
theorem po_mono {X : Cx} {e : Option Expr} {t t' : TO} (h : PO X e t) (i : ∀ τ H Q, t' τ H Q → t τ H Q) : PO X e t' := ⟨fun pins s σ H Q I q => h.run pins s σ H Q I (i σ H Q q)⟩
def cutL {α : Type} (xs : List α) (lo hi : Option Int) : List α := (xs.drop (HT.sIx xs.length 0 lo)).take (HT.sIx xs.length xs.length hi - HT.sIx xs.length 0 lo)
theorem RDs.cut {K : PySem.W.Frag} {H : Hp} {N : Ns} {ds : List D} {vs : List V} (r : RDs K H N ds vs) (lo hi : Option Int) : RDs K H N (cutL ds lo hi) (cutV vs lo hi) := by
  unfold cutL cutV
  rw [r.length]
  exact RDs.take _ (RDs.drop _ r)
theorem cut_whole {α : Type} {xs : List α} {lo hi : Option Int} (h : HT.sIx xs.length 0 lo = 0 ∧ HT.sIx xs.length xs.length hi = xs.length) : cutL xs lo hi = xs := by
  unfold cutL
  rw [h.1, h.2, List.drop_zero, Nat.sub_zero, List.take_length]
def dSl (mk : Bool) : D → Option Int → Option Int → Gp → DK → Prop := fun x lo hi G R => match x with
  | .str z => z.length ≤ sizeLine ∧ R (.str (cutS z lo hi)) G
  | .tup ds => R (.tup (cutL ds lo hi)) G
  | x => match lstOf G x with | some ds => newL mk (cutL ds lo hi) G R | none => False
def dSlice (mk : Bool) (te : DE) (tl th : DO) : DE := fun σ G R => te σ G fun x G1 => tl σ G1 fun l G2 => th σ G2 fun u G3 => dSl mk x l u G3 R
section
variable {X : Cx} {e : Expr} {te : DE} {pos : Pos}
theorem qo_none : QO X none dNoPart := po_mono po_none fun τ H Q h => by
  obtain ⟨σ, G, N, R, hs, hg, ht, q⟩ := h
  exact q _ _ _ _ ht (Stp.refl hg)
theorem qo_some (h : QE X e te) : QO X (some e) (dPart te) := po_mono (po_some h) fun τ H Q h => by
  obtain ⟨σ, G, N, R, hs, hg, ht, q⟩ := h
  refine ⟨σ, G, N, _, hs, hg, ht, fun d G1 N1 v1 H1 h1 s1 r1 => ?_⟩
  split at h1
  · exact ⟨_, r1.of_int, q _ _ _ _ h1 s1⟩
  · exact h1.elim
theorem qe_slice (mk : Bool) {lo hi : Option Expr} {tl th : DO} {p2 : Pos} (he : QE X e te) (hl : QO X lo tl) (hu : QO X hi th) : QE X (.Subscript e (.Slice lo hi none p2) pos) (dSlice mk te tl th) :=
  pe_mono (pe_slice (sl_str.or (sl_tupA.or sl_list)) he hl hu) fun τ H Q h => by
    obtain ⟨σ, G, N, R, hs, hg, ht, q⟩ := h
    refine ⟨σ, G, N, _, hs, hg, ht, fun d G1 N1 v1 H1 h1 s1 r1 => ?_⟩
    refine ⟨σ, G1, N1, _, hs.le s1.kp, s1.rel, h1, fun l G2 N2 H2 h2 s2 => ?_⟩
    refine ⟨σ, G2, N2, _, (hs.le s1.kp).le s2.kp, s2.rel, h2, fun u G3 N3 H3 h3 s3 => ?_⟩
    have s13 := (s1.trans s2).trans s3
    have r3 := (r1.le s2.kp).le s3.kp
    have q3 := q.le s13
    have rg := s3.rel
    unfold dSl at h3
    split at h3
    · obtain rfl := r3.of_str
      exact .inl ⟨_, rfl, h3.1, q3.at rg h3.2 (RD.str _)⟩
    · rename_i ds
      obtain ⟨p, vs, rfl, sq, r⟩ := r3.of_tup
      have hlen := r.length
      refine .inr (.inl ⟨p, vs, rfl, sq, fun hw => ?_, fun hw p np => ?_⟩)
      · rw [cut_whole (by rw [hlen]; exact hw)] at h3
        exact q3.at rg h3 (RD.tup sq r)
      · exact newT_ok rg (r.cut l u) h3 q3 np
    · split at h3
      · rename_i ds ed
        obtain ⟨p, vs, rfl, sq, r⟩ := lstOf_ok rg r3 ed
        exact .inr (.inr ⟨p, vs, rfl, sq, fun p np => newL_ok rg (r.cut l u) h3 q3 np⟩)
      · exact h3.elim
end
/-! ### t[::-1] -/
section
variable {prog : Program} {w : World} {A : Around} {E : Value → Shared → Prop} {s : Shared}
end
section
variable {X : Cx}
def dRev (mk : Bool) (te : DE) : DE := fun σ G R => te σ G fun x G1 => match x with
  | .tup ds => R (.tup ds.reverse) G1
  | x => match lstOf G1 x with | some ds => newL mk ds.reverse G1 R | none => False
/-! ### built-ins -/
theorem up_rn {f : Value} {r : DRn} {rv : List V → Hp → VK → Prop} (h : CallR X f rv) (i : ∀ cs G N R xs H Q, RDs X.K H N cs xs → RelG X.K H N G → r cs G R → UpQ X.K H N G R Q → rv xs H Q) : CallD X f r := callr_mono h fun xs H Q h => by
  obtain ⟨cs, G, N, R, r1, rg, h, q⟩ := h
  exact i cs G N R xs H Q r1 rg h q
def dLen : DRn := fun cs G R => match cs with
  | [.str z] => z.length ≤ sizeLine ∧ R (.int z.length) G
  | [x] => match seqOf G x with | some ds => R (.int ds.length) G | none => False
  | _ => False
theorem cd_len : CallD X (.builtin "len") dLen := up_rn (call_len_str.or call_len_seq) fun cs G N R xs H Q rd rg h q => by
  unfold dLen at h
  split at h
  · obtain ⟨v, r, rfl, r1, r2⟩ := rd.of_cons
    rw [r1.of_str, r2.of_nil]
    exact .inl ⟨_, rfl, h.1, q.at rg h.2 (RD.int _)⟩
  · obtain ⟨v, r, rfl, r1, r2⟩ := rd.of_cons
    rw [r2.of_nil]
    split at h
    · rename_i ds e
      obtain ⟨p, vs, rfl, s, r⟩ := seqOf_ok rg r1 e
      refine .inr ⟨p, vs, rfl, s, ?_⟩
      rw [← r.length]
      exact q.at rg h (RD.int _)
    · exact h.elim
  · exact h.elim
def blsOf : List D → Option (List Bool)
  | [] => some []
  | .bl b :: r => match blsOf r with | some bs => some (b :: bs) | none => none
  | _ => none
theorem blsOf_ok : ∀ {ds : List D} {bs : List Bool}, blsOf ds = some bs → ds = bs.map D.bl
  | [], _, h => by cases h; rfl
  | .bl b :: r, _, h => by
    unfold blsOf at h
    split at h
    · rename_i bs e
      cases h
      rw [blsOf_ok e]; rfl
    · cases h
  | .non :: r, _, h => by simp [blsOf] at h
  | .int _ :: r, _, h => by simp [blsOf] at h
  | .str _ :: r, _, h => by simp [blsOf] at h
  | .ty _ :: r, _, h => by simp [blsOf] at h
  | .ref _ :: r, _, h => by simp [blsOf] at h
  | .any _ :: r, _, h => by simp [blsOf] at h
  | .tup _ :: r, _, h => by simp [blsOf] at h
  | .lst _ :: r, _, h => by simp [blsOf] at h
theorem blsOf_map : ∀ bs : List Bool, blsOf (bs.map D.bl) = some bs
  | [] => rfl
  | b :: bs => by rw [List.map_cons]; unfold blsOf; rw [blsOf_map bs]
def dAll : DRn := fun cs G R => match cs with
  | [x] => match (lstOf G x).bind blsOf with | some bs => R (.bl (bs.all id)) G | none => False
  | _ => False
theorem bls_at {K : PySem.W.Frag} {H : Hp} {N : Ns} {G : Gp} {d : D} {v : V} {bs : List Bool} (rg : RelG K H N G) (rd : RD K H N d v) (h : (lstOf G d).bind blsOf = some bs) : ∃ p, v = .ref p ∧ SqL K H p (bs.map V.bl) := by
  cases e : lstOf G d with
  | none => rw [e] at h; cases h
  | some ds =>
    rw [e] at h
    obtain ⟨p, vs, rfl, s, r⟩ := lstOf_ok rg rd e
    have e2 := blsOf_ok (show blsOf ds = some bs from h)
    subst e2
    rw [r.of_bls] at s
    exact ⟨p, rfl, s⟩
theorem cd_all (hc : X.calm = true) : CallD X (.builtin "all") dAll := up_rn (cr_all hc) fun cs G N R xs H Q rd rg h q => by
  unfold dAll at h
  split at h
  · obtain ⟨v, r, rfl, r1, r2⟩ := rd.of_cons
    rw [r2.of_nil]
    split at h
    · rename_i bs e
      obtain ⟨p, rfl, s⟩ := bls_at rg r1 e
      exact ⟨p, bs, rfl, s, q.at rg h (RD.bl _)⟩
    · exact h.elim
  · exact h.elim
def dMax2 : DRn := fun cs G R => match cs with | [.int i, .int j] => R (.int (if j > i then j else i)) G | _ => False
def dMin2 : DRn := fun cs G R => match cs with | [.int i, .int j] => R (.int (if j < i then j else i)) G | _ => False
theorem cd_max2 (hc : X.calm = true) : CallD X (.builtin "max") dMax2 := up_rn (call_max2 hc) fun cs G N R xs H Q rd rg h q => by
  unfold dMax2 at h
  split at h
  · obtain ⟨v, r, rfl, r1, r2⟩ := rd.of_cons
    obtain ⟨v', r', rfl, r3, r4⟩ := r2.of_cons
    rw [r4.of_nil, r1.of_int, r3.of_int]
    exact ⟨_, _, rfl, q.at rg h (RD.int _)⟩
  · exact h.elim
theorem cd_min2 (hc : X.calm = true) : CallD X (.builtin "min") dMin2 := up_rn (call_min2 hc) fun cs G N R xs H Q rd rg h q => by
  unfold dMin2 at h
  split at h
  · obtain ⟨v, r, rfl, r1, r2⟩ := rd.of_cons
    obtain ⟨v', r', rfl, r3, r4⟩ := r2.of_cons
    rw [r4.of_nil, r1.of_int, r3.of_int]
    exact ⟨_, _, rfl, q.at rg h (RD.int _)⟩
  · exact h.elim
def dTuple : DRn := fun cs G R => match cs with | [x] => (match seqOf G x with | some ds => R (.tup ds) G | none => False) | _ => False
def dList (mk : Bool) : DRn := fun cs G R => match cs with | [x] => (match seqOf G x with | some ds => newL mk ds G R | none => False) | _ => False
theorem cd_tuple : CallD X (.type "tuple") dTuple := up_rn call_tuple_of fun cs G N R xs H Q rd rg h q => by
  unfold dTuple at h
  split at h
  · obtain ⟨v, r, rfl, r1, r2⟩ := rd.of_cons
    rw [r2.of_nil]
    split at h
    · rename_i ds e
      obtain ⟨p, vs, rfl, s, r⟩ := seqOf_ok rg r1 e
      refine ⟨p, vs, rfl, ?_⟩
      rcases s with s | s
      · exact .inl ⟨s, fun p np => newT_ok rg r h q np⟩
      · exact .inr ⟨s, q.at rg h (RD.tup s r)⟩
    · exact h.elim
  · exact h.elim
theorem cd_list (mk : Bool) : CallD X (.type "list") (dList mk) := up_rn call_list_of fun cs G N R xs H Q rd rg h q => by
  unfold dList at h
  split at h
  · obtain ⟨v, r, rfl, r1, r2⟩ := rd.of_cons
    rw [r2.of_nil]
    split at h
    · rename_i ds e
      obtain ⟨p, vs, rfl, s, r⟩ := seqOf_ok rg r1 e
      exact ⟨p, vs, rfl, s, fun p np => newL_ok rg r h q np⟩
    · exact h.elim
  · exact h.elim
def dInt : DRn := fun cs G R => match cs with | [.int i] => R (.int i) G | [.bl b] => R (.int (if b then 1 else 0)) G | _ => False
theorem cd_int : CallD X (.type "int") dInt := up_rn call_int1 fun cs G N R xs H Q rd rg h q => by
  unfold dInt at h
  split at h
  · obtain ⟨v, r, rfl, r1, r2⟩ := rd.of_cons
    rw [r2.of_nil, r1.of_int]
    exact .inl ⟨_, rfl, q.at rg h (RD.int _)⟩
  · obtain ⟨v, r, rfl, r1, r2⟩ := rd.of_cons
    rw [r2.of_nil, r1.of_bl]
    exact .inr ⟨_, rfl, q.at rg h (RD.int _)⟩
  · exact h.elim
def dStrI : DRn := fun cs G R => match cs with | [.int i] => i.natAbs.log2 < 1920 ∧ R (.str (toString i)) G | _ => False
theorem cd_strI : CallD X (.type "str") dStrI := up_rn call_str_int fun cs G N R xs H Q rd rg h q => by
  unfold dStrI at h
  split at h
  · obtain ⟨v, r, rfl, r1, r2⟩ := rd.of_cons
    rw [r2.of_nil, r1.of_int]
    exact ⟨_, rfl, h.1, q.at rg h.2 (RD.str _)⟩
  · exact h.elim
/-- the type of data -/
def tyD (G : Gp) : D → Option String
  | .non => some "NoneType" | .bl _ => some "bool" | .int _ => some "int" | .str _ => some "str" | .tup _ => some "tuple" | .nt _ => some "tuple" | .lst _ => some "list"
  | .any n => if n = "list" ∨ n = "dict" then some n else none
  | .ref a => match G a with | some (.lst _) => some "list" | some (.dK _) => some "dict" | some (.dT _) => some "dict" | _ => none
  | _ => none
def isTy (t n : String) : Bool := t == n || (t == "bool" && n == "int")
def knownTy : List String := ["int", "bool", "str", "tuple", "list", "dict"]
def dIsi : DRn := fun cs G R => match cs with
  | [x, .ty n] => n ∈ knownTy ∧ (match tyD G x with | some t => R (.bl (isTy t n)) G | none => False)
  | _ => False
theorem kits : ∀ t ∈ ["NoneType", "bool", "int", "str", "tuple", "list", "dict"], ∀ n ∈ knownTy, kitB t n = some (isTy t n) := by decide +kernel
theorem knd_ty {K : PySem.W.Frag} {H : Hp} {a : Addr} {u : HO} {n : String} (h : H a = some u) (k : knd u = n) (d : n = "list" ∨ n = "dict") : TyX K H (.ref a) (.type n) := by
  subst k
  cases u with
  | lst _ => exact .base (.lst h)
  | dK _ => exact .base (.dK h)
  | dT _ => exact .base (.dT h)
  | frz o z =>
    cases z with
    | lst _ => exact .base (.frz h)
    | dK _ => exact .fDict h
    | _ => simp [knd] at d
  | _ => simp [knd] at d
theorem tyD_ok {K : PySem.W.Frag} {H : Hp} {N : Ns} {G : Gp} {d : D} {v : V} {t : String} (rg : RelG K H N G) (rd : RD K H N d v) (h : tyD G d = some t) : TyX K H v (.type t) ∧ t ∈ ["NoneType", "bool", "int", "str", "tuple", "list", "dict"] := by
  cases d with
  | non => cases h; rw [rd.of_non]; exact ⟨.base .non, by decide⟩
  | bl b => cases h; rw [rd.of_bl]; exact ⟨.base (.bl _), by decide⟩
  | int b => cases h; rw [rd.of_int]; exact ⟨.base (.int _), by decide⟩
  | str b => cases h; rw [rd.of_str]; exact ⟨.base (.str _), by decide⟩
  | ty b => cases h
  | nt zs =>
    cases h
    obtain ⟨p, rfl, s⟩ := rd.of_nt
    refine ⟨?_, by decide⟩
    rcases s with ⟨o, s, _⟩ | ⟨o, its, n, e, c, _⟩
    · exact .fTuple s
    · exact .kTuple e c
  | tup ds =>
    cases h
    obtain ⟨p, vs, rfl, s, r⟩ := rd.of_tup
    refine ⟨?_, by decide⟩
    rcases s with (s | ⟨o, s⟩) | ⟨o, its, n, e, c, _⟩
    · exact .base (.tup s)
    · exact .fTuple s
    · exact .kTuple e c
  | lst ds =>
    cases h
    obtain ⟨p, vs, rfl, s, r⟩ := rd.of_lst
    refine ⟨?_, by decide⟩
    rcases s with ⟨s, _⟩ | ⟨o, s⟩ | ⟨o, its, n, e, c, _⟩
    · exact .base (.lst s)
    · exact .base (.frz s)
    · exact .kList e c
  | any n =>
    obtain ⟨a, u, rfl, hu, k⟩ := rd.of_any
    unfold tyD at h
    simp only at h
    split at h
    · rename_i d
      cases h
      refine ⟨knd_ty hu k d, ?_⟩
      rcases d with d | d
      · subst d; decide
      · subst d; decide
    · cases h
  | ref a =>
    obtain rfl := rd.of_ref
    unfold tyD at h
    simp only at h
    split at h
    · rename_i ds e
      cases h
      obtain ⟨_, vs, hv, _⟩ := rg a _ e
      exact ⟨.base (.lst hv), by decide⟩
    · rename_i ds e
      cases h
      obtain ⟨_, vs, hv, _⟩ := rg a _ e
      exact ⟨.base (.dK hv), by decide⟩
    · rename_i ds e
      cases h
      obtain ⟨_, vs, hv, _⟩ := rg a _ e
      exact ⟨.base (.dT hv), by decide⟩
    · cases h
theorem cd_isi : CallD X (.builtin "isinstance") dIsi := up_rn call_isi fun cs G N R xs H Q rd rg h q => by
  unfold dIsi at h
  split at h
  · rename_i x n
    obtain ⟨hn, h⟩ := h
    obtain ⟨v, r, rfl, r1, r2⟩ := rd.of_cons
    obtain ⟨v', r', rfl, r3, r4⟩ := r2.of_cons
    rw [r4.of_nil, r3.of_ty]
    split at h
    · rename_i t et
      obtain ⟨ty, mt⟩ := tyD_ok rg r1 et
      exact ⟨v, _, .type t, .type n, isTy t n, rfl, .ty n, ty, kit_ty (kits t mt n hn), q.at rg h (RD.bl _)⟩
    · exact h.elim
  · exact h.elim
/-- a built-in type's name, as a value -/
theorem qe_ty {x : Str} {n : String} {pos : Pos} (hg : Gl X x) (hm : X.mg x = none) (hv : bootBuiltins x = some (.type n)) (hn : x ≠ "__name__" := by decide) (hd : (x == ("__debug__" : Str)) = false := by decide) : QE X (.Name x pos) (dC (.ty n)) :=
  pe_mono (pe_bltn hg hm hv (v := .ty n) rfl hn hd) fun _ _ _ h => up_c (fun _ _ => RD.ty n) h
/-! ### methods -/
def MtD (X : Cx) (id : String) (r : D → List D → Gp → DK → Prop) : Prop := MtR X id (upM X.K r)
theorem mtr_mono {id : String} {r r' : V → List V → Hp → VK → Prop} (h : MtR X id r) (i : ∀ x xs H Q, r' x xs H Q → r x xs H Q) : MtR X id r' := fun pins s σ H x xs v us Q I rx rxs q => h pins s σ H x xs v us Q I rx rxs (i x xs H Q q)
theorem md_of {id : String} {r : D → List D → Gp → DK → Prop} {rv : V → List V → Hp → VK → Prop} (h : MtR X id rv) (i : ∀ c cs G N R x xs H Q, RD X.K H N c x → RDs X.K H N cs xs → RelG X.K H N G → r c cs G R → UpQ X.K H N G R Q → rv x xs H Q) : MtD X id r := mtr_mono h fun x xs H Q h => by
  obtain ⟨c, cs, G, N, R, r0, r1, rg, h, q⟩ := h
  exact i c cs G N R x xs H Q r0 r1 rg h q
/-- the type of what has methods -/
def mty (G : Gp) : D → Option String
  | .str _ => some "str" | .lst _ => some "list"
  | .ref a => match G a with | some (.lst _) => some "list" | some (.dK _) => some "dict" | some (.dT _) => some "dict" | _ => none
  | _ => none
def dM (T : String) (r : D → List D → Gp → DK → Prop) (to : DE) (t : DA) : DE := fun σ G R => to σ G fun x G1 => mty G1 x = some T ∧ t σ G1 fun xs G2 => r x xs G2 R
def dM0 (T : String) (r : D → List D → Gp → DK → Prop) (to : DE) : DE := fun σ G R => to σ G fun x G1 => mty G1 x = some T ∧ r x [] G1 R
theorem tyV_of {K : PySem.W.Frag} {H : Hp} {N : Ns} {G : Gp} {d : D} {v : V} {T : String} (rg : RelG K H N G) (rd : RD K H N d v) (h : mty G d = some T) : tyV K T v H := by
  cases d with
  | str b => cases h; rw [rd.of_str]; rfl
  | lst ds =>
    cases h
    obtain ⟨p, vs, rfl, s, r⟩ := rd.of_lst
    exact .inl ⟨rfl, _, s.sq⟩
  | ref a =>
    obtain rfl := rd.of_ref
    unfold mty at h
    simp only at h
    split at h
    · rename_i ds e
      cases h
      obtain ⟨_, vs, hv, _⟩ := rg a _ e
      exact .inl ⟨rfl, _, SqL.of hv⟩
    · rename_i ds e
      cases h
      obtain ⟨_, vs, hv, _⟩ := rg a _ e
      exact .inr (.inr (.inl ⟨rfl, .inl ⟨_, hv⟩⟩))
    · rename_i ds e
      cases h
      obtain ⟨_, vs, hv, _⟩ := rg a _ e
      exact .inr (.inr (.inl ⟨rfl, .inr ⟨_, hv⟩⟩))
    · cases h
  | _ => cases h
variable {o e : Expr} {es : List Expr} {to : DE} {t : DA} {name : Str} {apos cpos : Pos} {T id : String} {r : D → List D → Gp → DK → Prop}
theorem qe_m (pa : PlainAttrs T) (slot : Slot T name id) (hty : typeOf (.builtin id) = pure (.type "method_descriptor")) (hm : MtD X id r) (ho : QE X o to) (ha : QA X (e :: es) t)
    (hbase : attributeBase o name X.env (eval o X.env) = eval o X.env := by rfl)
    (hfew : ((backTo cpos (starEach (e :: es) X.env)).all (fun x => !x.1) && (backToKw cpos (keywordEach [] X.env)).all (fun x => x.1.isSome)
      && decide ((e :: es).length + ([] : List Keyword).length + (if ([] : List Keyword).isEmpty then 0 else 1) < 30)) = true := by rfl)
    (hline : (apos.endLine == cpos.line) = true := by rfl) (hs : starEach (e :: es) X.env = (false, eval e X.env) :: starEach es X.env := by rfl) (hplain : (backTo cpos (starEach es X.env)).any (·.1) = false := by rfl) :
    QE X (.Call (.Attribute o name apos) (e :: es) [] cpos) (dM T r to t) := pe_mono (pe_bm pa slot hty hm ho ha hbase hfew hline hs hplain) fun τ H Q h => by
  obtain ⟨σ, G, N, R, hs, hg, ht, q⟩ := h
  refine ⟨σ, G, N, _, hs, hg, ht, fun x G1 N1 v1 H1 h1 s1 r1 => ?_⟩
  refine ⟨tyV_of s1.rel r1 h1.1, σ, G1, N1, _, hs.le s1.kp, s1.rel, h1.2, fun xs G2 N2 vs H2 h2 s2 r2 => ?_⟩
  exact ⟨x, xs, G2, N2, R, r1.le s2.kp, r2, s2.rel, h2, q.le (s1.trans s2)⟩
/-- xs.append(y) -/
def dAppend : D → List D → Gp → DK → Prop := fun x xs G R => match x, xs with
  | .ref a, [y] => match G a with | some (.lst ds) => ds.length < sizeLine ∧ R .non (gup G a (.lst (ds ++ [y]))) | _ => False
  | _, _ => False
theorem md_append : MtD X "list.append" dAppend := md_of (rv := rAppend) (fun pins s σ H x xs v us Q I rx rxs q => mt_append pins s σ H x xs v us Q I rx rxs q) fun c cs G N R x xs H Q r0 r1 rg h q => by
  unfold dAppend at h
  split at h
  · rename_i a y
    obtain rfl := r0.of_ref
    obtain ⟨v, r, rfl, rv, rr⟩ := r1.of_cons
    rw [rr.of_nil]
    split at h
    · rename_i ds e
      obtain ⟨_, vs, hv, rd⟩ := rg a _ e
      have hl := rd.length
      refine ⟨a, vs, v, rfl, rfl, hv, by omega, ?_⟩
      refine q _ _ N _ _ h.2 (Stp.write (u := .lst (vs ++ [v])) rg e hv rfl rfl ⟨_, upd_same, ?_⟩) RD.non
      exact (rd.append (RDs.cons rv RDs.nil)).le (Kp.write (u := .lst (vs ++ [v])) (rg a _ e).1 hv rfl rfl)
    · exact h.elim
  · exact h.elim
def strsOf : List D → Option (List Str)
  | [] => some []
  | .str b :: r => match strsOf r with | some bs => some (b :: bs) | none => none
  | _ => none
theorem strsOf_ok : ∀ {ds : List D} {bs : List Str}, strsOf ds = some bs → ds = bs.map D.str
  | [], _, h => by cases h; rfl
  | .str b :: r, _, h => by
    unfold strsOf at h
    split at h
    · rename_i bs e
      cases h
      rw [strsOf_ok e]; rfl
    · cases h
  | .non :: r, _, h => by simp [strsOf] at h
  | .int _ :: r, _, h => by simp [strsOf] at h
  | .bl _ :: r, _, h => by simp [strsOf] at h
  | .ty _ :: r, _, h => by simp [strsOf] at h
  | .ref _ :: r, _, h => by simp [strsOf] at h
  | .any _ :: r, _, h => by simp [strsOf] at h
  | .tup _ :: r, _, h => by simp [strsOf] at h
  | .lst _ :: r, _, h => by simp [strsOf] at h
theorem strsOf_map : ∀ bs : List Str, strsOf (bs.map D.str) = some bs
  | [] => rfl
  | b :: bs => by rw [List.map_cons]; unfold strsOf; rw [strsOf_map bs]
/-- sep.join(texts) -/
def dJoin : D → List D → Gp → DK → Prop := fun x xs G R => match x, xs with
  | .str a, [y] => match (seqOf G y).bind strsOf with | some ys => (ys.map (·.length)).sum + ys.length * a.length ≤ 16777216 ∧ R (.str (Txt.join a ys)) G | none => False
  | _, _ => False
theorem md_join : MtD X "str.join" dJoin := md_of mt_join fun c cs G N R x xs H Q r0 r1 rg h q => by
  unfold dJoin at h
  split at h
  · obtain rfl := r0.of_str
    obtain ⟨v, r, rfl, rv, rr⟩ := r1.of_cons
    rw [rr.of_nil]
    rename_i a0 y
    split at h
    · rename_i ys e
      cases e2 : seqOf G y with
      | none => rw [e2] at e; cases e
      | some ds =>
        rw [e2] at e
        obtain ⟨p, vs, rfl, s, rd⟩ := seqOf_ok rg rv e2
        have e3 := strsOf_ok (show strsOf ds = some ys from e)
        subst e3
        rw [rd.of_strs] at s
        exact ⟨_, p, ys, rfl, rfl, s, h.1, q.at rg h.2 (RD.str _)⟩
    · exact h.elim
  · exact h.elim
end
end DL

set_option Elab.async false
set_option linter.all false
set_option maxRecDepth 100000
set_option maxHeartbeats 4000000
set_option autoImplicit false
namespace DL
open PySem PySem.Spec PyProof.Rows L2
/-! ### sets of ints and texts, made of a list or a tuple -/
section
variable {κ : Type} [DecidableEq κ]
/-- each thing once, in the order of coming -/
def uniqStep (acc : List κ) (k : κ) : List κ := if k ∈ acc then acc else acc ++ [k]
def uniq (ks : List κ) : List κ := ks.foldl uniqStep []
theorem uniq_snoc (ks : List κ) (k : κ) : uniq (ks ++ [k]) = uniqStep (uniq ks) k := by unfold uniq; rw [List.foldl_append]; rfl
theorem uniq_fold : ∀ (ks acc : List κ), acc.Nodup → (ks.foldl uniqStep acc).Nodup ∧ (∀ x, x ∈ ks.foldl uniqStep acc ↔ x ∈ acc ∨ x ∈ ks) ∧ (ks.foldl uniqStep acc).length ≤ acc.length + ks.length ∧ ((ks.foldl uniqStep acc).length = acc.length + ks.length ↔ (acc ++ ks).Nodup)
  | [], acc, h => by simp [h]
  | k :: ks, acc, h => by
    rw [List.foldl_cons]
    by_cases e : k ∈ acc
    · rw [show uniqStep acc k = acc from if_pos e]
      obtain ⟨h1, h2, h3, h4⟩ := uniq_fold ks acc h
      refine ⟨h1, fun x => ?_, by simp; omega, ?_⟩
      · rw [h2 x]
        constructor
        · rintro (z | z)
          · exact .inl z
          · exact .inr (List.mem_cons_of_mem _ z)
        · rintro (z | z)
          · exact .inl z
          · rcases List.mem_cons.mp z with z | z
            · exact .inl (z ▸ e)
            · exact .inr z
      · constructor
        · intro z; simp only [List.length_cons] at z; omega
        · intro z
          rw [List.nodup_append] at z
          exact absurd rfl (z.2.2 k e k List.mem_cons_self)
    · rw [show uniqStep acc k = acc ++ [k] from if_neg e]
      have hn : (acc ++ [k]).Nodup := by
        rw [List.nodup_append]
        refine ⟨h, by simp, fun a ha b hb => ?_⟩
        rw [List.mem_singleton] at hb
        subst hb
        intro z; subst z; exact e ha
      obtain ⟨h1, h2, h3, h4⟩ := uniq_fold ks (acc ++ [k]) hn
      refine ⟨h1, fun x => ?_, by simp only [List.length_append, List.length_cons, List.length_nil] at h3 ⊢; omega, ?_⟩
      · rw [h2 x]; simp [or_assoc]
      · have e1 : (acc ++ [k]).length + ks.length = acc.length + (k :: ks).length := by simp; omega
        rw [← e1, h4]
        simp
theorem uniq_le (ks : List κ) : (uniq ks).length ≤ ks.length := by have := (uniq_fold ks [] List.nodup_nil).2.2.1; simpa [uniq] using this
theorem uniq_eq (ks : List κ) : (uniq ks).length = ks.length ↔ ks.Nodup := by have := (uniq_fold ks [] List.nodup_nil).2.2.2; simpa [uniq] using this
end
def memB (k : Key) (l : List Key) : Bool := l.any fun y => decide (y = k)
theorem memB_iff {k : Key} {l : List Key} : memB k l = true ↔ k ∈ l := by
  unfold memB
  rw [List.any_eq_true]
  constructor
  · rintro ⟨x, h, e⟩
    rw [← of_decide_eq_true e]; exact h
  · intro h
    exact ⟨k, h, decide_eq_true rfl⟩
instance keyLawful : LawfulBEq Key where
  eq_of_beq := fun {a b} h => by
    cases a with
    | inl i => cases b with
      | inl j => exact congrArg Sum.inl (eq_of_beq (show (i == j) = true from h))
      | inr j => exact absurd (show false = true from h) Bool.false_ne_true
    | inr i => cases b with
      | inl j => exact absurd (show false = true from h) Bool.false_ne_true
      | inr j => exact congrArg Sum.inr (eq_of_beq (show (i == j) = true from h))
  rfl := fun {a} => by
    cases a with
    | inl i => exact beq_self_eq_true i
    | inr i => exact beq_self_eq_true i
/-- values that are these keys -/
def KeysAre (us : List Value) (ks : List Key) : Prop := Paired (fun (k : Key) (u : Value) => keyIs k u = true) ks us
theorem KeysAre.len {us : List Value} {ks : List Key} (h : KeysAre us ks) : us.length = ks.length := (Paired.length h).symm
theorem KeysAre.get : ∀ {us : List Value} {ks : List Key} {i : Nat} {v : Value}, KeysAre us ks → us[i]? = some v → ∃ k, ks[i]? = some k ∧ keyIs k v = true
  | _, _, _, _, .nil, e => by simp at e
  | _, _, 0, _, .cons r _, e => by simp at e; subst e; exact ⟨_, rfl, r⟩
  | _, _, i + 1, v, .cons _ t, e => by
    obtain ⟨k, h1, h2⟩ := KeysAre.get (i := i) (v := v) t (by simpa using e)
    exact ⟨k, by simpa using h1, h2⟩
theorem keyIs_scan {k : Key} {v : Value} (h : keyIs k v = true) : v.scannable = true := by
  rcases keyIs_shape h with ⟨i, t, rfl, rfl⟩ | ⟨x, t, rfl, rfl⟩ <;> rfl
section
variable {prog : Program} {w : World} {A : Around} {R : Result → Shared → Prop} {I : Addr} {fp wr : List Addr} {G : Array GenState → Array GenState → Prop} {n : Nat} {P : Nat → Value → Prop} {St : Nat → Shared → Prop}
theorem loopKey (W : WalksS prog w A.in1 I fp wr G n P St) (S : Addr) (hSf : S ∉ fp) (xs : List Key) (hsz : xs.length = n) (hb : xs.length + 1 < scanBound)
    (hval : ∀ i v, P i v → ∃ k, xs[i]? = some k ∧ keyIs k v = true) :
    ∀ (k i : Nat) (s : Shared), n - i = k → i ≤ n → St i s →
      s.heap.SetOf (mixKind prog w) S (fun k' => memB k' (uniq (xs.take i))) (uniq (xs.take i)).length →
      (∀ s', Moved (S :: wr) G s s' → s'.heap.SetOf (mixKind prog w) S (fun k' => memB k' (uniq xs)) (uniq xs).length → R (.ok (.ret .none)) s') →
      codeAny (model prog w) A (.builtin "set.update.loop" ⟨[.ref S, .ref I], []⟩) R s := by
  have hSw : S ∉ wr := fun h => hSf (W.sub _ h)
  have hsub : ∀ b ∈ wr, b ∈ S :: wr := fun b hb => List.mem_cons_of_mem _ hb
  intro k
  induction k with
  | zero =>
    intro i s hk hi hst hS hR
    have hin : i = n := by omega
    subst hin
    refine codeAny_builtin PyProof.Rows.F.entry_set_update_loop ?_
    rw [Around.under_plainId PyProof.Rows.F.plain_set_update_loop _]
    show wpAny _ A.in1 (pyNext (.ref I) >>= _) _ _ s
    refine wpAny_bind (W.done s _ _ hst fun s' hm => ?_)
    show wpAny _ A.in1 (ret Value.none) _ _ s'
    rw [List.take_of_length_le (by omega)] at hS
    exact wpAny_pure (hR s' (hm.mono hsub) (by
      obtain ⟨o, es, ep, t, ho, rest⟩ := hS
      exact ⟨o, es, ep, t, hm.heap S _ hSw ho, rest⟩))
  | succ k ih =>
    intro i s hk hi hst hS hR
    have hlt : i < n := by omega
    refine codeAny_builtin PyProof.Rows.F.entry_set_update_loop ?_
    rw [Around.under_plainId PyProof.Rows.F.plain_set_update_loop _]
    show wpAny _ A.in1 (pyNext (.ref I) >>= _) _ _ s
    refine wpAny_bind (W.item i s _ _ hlt hst fun v s' hP hst' hm => ?_)
    obtain ⟨key, hk1, hk2⟩ := hval i v hP
    have hS' : s'.heap.SetOf (mixKind prog w) S (fun k' => memB k' (uniq (xs.take i))) (uniq (xs.take i)).length := by
      obtain ⟨o, es, ep, tb, ho, rest⟩ := hS
      exact ⟨o, es, ep, tb, hm.heap S _ hSw ho, rest⟩
    show wpAny _ A.in1 (holding [v] (setAdd S v) >>= _) _ _ s'
    refine wpAny_bind (wpAny_holding ?_)
    unfold setAdd
    refine wpAny_holding ?_
    refine wpAny_bind ((mixKind prog w).pyHash (k := key) hk2 ?_)
    have hroom : (uniq (xs.take i)).length + 1 < scanBound := by
      have := uniq_le (xs.take i)
      rw [List.length_take] at this
      omega
    refine wpAny_setAddHashed_of (knd := mixKind prog w) (k := key) (s := { s' with toks := s'.toks + 1 }) hk2 (keyIs_scan hk2) hS' hroom fun h' hsb hS2 => ?_
    have hSi : h'.SetOf (mixKind prog w) S (fun k' => memB k' (uniq (xs.take (i + 1)))) (uniq (xs.take (i + 1))).length := by
      have et : xs.take (i + 1) = xs.take i ++ [key] := by rw [List.take_add_one, hk1]; rfl
      rw [et, uniq_snoc]
      by_cases e : key ∈ uniq (xs.take i)
      · have em := memB_iff.mpr e
        refine SetOf_congr hS2 (fun k' => ?_) ?_
        · rw [show uniqStep (uniq (xs.take i)) key = uniq (xs.take i) from if_pos e]
          show (memB k' (uniq (xs.take i)) || decide (k' = key)) = _
          by_cases e2 : k' = key
          · subst e2; rw [em]; rfl
          · rw [decide_eq_false e2, Bool.or_false]
        · rw [show uniqStep (uniq (xs.take i)) key = uniq (xs.take i) from if_pos e, em]; rfl
      · have em : memB key (uniq (xs.take i)) = false := by
          cases q : memB key (uniq (xs.take i)) with
          | false => rfl
          | true => exact absurd (memB_iff.mp q) e
        refine SetOf_congr hS2 (fun k' => ?_) ?_
        · rw [show uniqStep (uniq (xs.take i)) key = uniq (xs.take i) ++ [key] from if_neg e]
          show (memB k' (uniq (xs.take i)) || decide (k' = key)) = memB k' (uniq (xs.take i) ++ [key])
          unfold memB
          rw [List.any_append]
          congr 1
          show decide (k' = key) = ([key].any fun y => decide (y = k'))
          rw [List.any_cons, List.any_nil, Bool.or_false]
          by_cases e2 : k' = key
          · subst e2; rfl
          · rw [decide_eq_false e2, decide_eq_false (fun z => e2 z.symm)]
        · rw [show uniqStep (uniq (xs.take i)) key = uniq (xs.take i) ++ [key] from if_neg e, em, List.length_append]; rfl
    refine wpAny_pure ⟨plainId_quiet PyProof.Rows.F.plain_set_update_loop _, ih (i + 1) _ (by omega) hlt (W.frame _ s' _ _ hst' (Nat.le_succ _) fun b hb o e => ?_) hSi fun s'' hm'' hS'' => ?_⟩
    · rw [hsb.2 b (fun h : b = S => hSf (by rw [← h]; exact hb))]; exact e
    · refine hR s'' (Moved.trans W.gtrans ((hm.mono hsub).then_heap (Nat.le_succ _) fun b o hb e => ?_) hm'') hS''
      rw [hsb.2 b (fun h : b = S => hb (by rw [h]; exact List.mem_cons_self))]; exact e
end
section
variable {prog : Program} {w : World} {A : Around} {E : Value → Shared → Prop} {s : Shared}
set_option maxHeartbeats 3200000 in
theorem call_set_listK {l : Addr} {items : Array Value} {xs : List Key} {Q : Value → Shared → Prop}
    (hh : A.handled = none) (hl : s.heap.IsList l items) (hi : KeysAre items.toList xs) (hn1 : xs.length + 1 < scanBound)
    (h : ∀ (h' : Heap) (tk : Nat), h'.SetOf (mixKind prog w) s.heap.objs.size (fun k' => memB k' (uniq xs)) (uniq xs).length →
      (∀ b o, b < s.heap.objs.size → s.heap.get? b = some o → h'.get? b = some o) → Q (.ref s.heap.objs.size) { s with heap := h', toks := tk }) :
    wpAny (model prog w) A (call (.type "set") [.ref l]) Q E s := by
  obtain ⟨c, tl, hmro⟩ := PySem.F.called_set.mro
  have hmade := PySem.F.called_set.made
  have hsub := PySem.F.called_set.sub
  refine wpAny_call (codeAny_of_tree ?_)
  show wpAny _ _ (callAny (.type "set") _) _ _ _
  refine wpAny_pure ⟨Code.quiet_builtin _ (by decide +kernel), codeAny_builtin PySem.F.entry_type_call ?_⟩
  rw [Around.under_plain (weight_type_call_type "set" [.ref l] []) rfl]
  have h1 := PySem.F.called_set.notType
  have h2 := PySem.F.called_set.canCreate
  have hct := PySem.F.typeCall_set_1 (.ref l)
  repeat (any_goals (first | assumption | wp_step))

  refine codeAny_mono (code_set_new_1 (.ref l) (E := E) (Q₁ := fun obj s₁ => ∃ led : Bool, obj = .ref s.heap.objs.size ∧ s₁ = { s with heap := s.heap.push { cls := .type "set", dict := none, data := .set #[] 0 (.fresh 0 0 led) } }) fun led => ⟨led, rfl, rfl⟩) fun r s₁ hr => ?_
  cases r with
  | error e => exact hr
  | ok fl =>
    cases fl with
    | ret obj =>
      obtain ⟨led, rfl, rfl⟩ := hr
      have hS : (s.heap.push { cls := .type "set", dict := none, data := .set #[] 0 (.fresh 0 0 led) }).get? s.heap.objs.size = some { cls := .type "set", dict := none, data := .set #[] 0 (.fresh 0 0 led) } := Heap.get?_push_size _ rfl
      have hT : Shared.TypeIs { s with heap := s.heap.push { cls := .type "set", dict := none, data := .set #[] 0 (.fresh 0 0 led) } } (.ref s.heap.objs.size) "set" := ⟨_, hS, rfl⟩
      have hli := PySem.F.called_set.init.lookup
      have hbi := PySem.F.called_set.init.bind (.ref s.heap.objs.size)
      repeat (any_goals (first | assumption | wp_step))

      refine codeAny_mono (codeAny_call_builtin (R := wants (fun r s₂ => r = .none ∧ ∃ h' tk, s₂ = { s with heap := h', toks := tk } ∧
          h'.SetOf (mixKind prog w) s.heap.objs.size (fun k' => memB k' (uniq xs)) (uniq xs).length ∧
          (∀ b o, b < s.heap.objs.size → s.heap.get? b = some o → h'.get? b = some o)) E) PySem.F.called_set.init.plain PySem.F.entry_set_init (check_set_init_1 hT ?_)) fun r₂ s₂ hr₂ => ?_
      · obtain ⟨ol, hol, hcl, nl, hdl⟩ := hl
        obtain ⟨ocls, odict, odata, oslots⟩ := ol
        simp only at hcl hdl
        subst hcl; subst hdl
        have hol' : (s.heap.push { cls := .type "set", dict := none, data := .set #[] 0 (.fresh 0 0 led) }).get? l = some { cls := .type "list", dict := odict, data := .seq items nl, slots := oslots } := Heap.get?_push_of_some _ hol
        have hsls := PySem.F.sub_list_set
        have hslf := PySem.F.sub_list_frozenset
        have hne : (Value.type "list" == Value.type "dict") = false := by decide
        have hl1 : (s.heap.push { cls := .type "set", dict := none, data := .set #[] 0 (.fresh 0 0 led) }).IsList l items := ⟨_, hol', rfl, nl, rfl⟩
        unfold Builtin.«set.__init__» noKeywords Builtin.Frozenset.updateFrom
        generalize hPI : pyIter = PI
        wp_walk
        subst hPI

        refine wpAny_pyIter_list hl1 ?_
        refine wpAny_bind (wpAny_runValue ?_)
        have hlS : l < s.heap.objs.size := Heap.lt_size hol
        have hh3 : A.in1.in1.in1.handled = none := by simp [hh]
        have hneI : l ≠ (s.heap.push { cls := .type "set", dict := none, data := .set #[] 0 (.fresh 0 0 led) }).objs.size := by
          rw [Heap.size_push]; exact Nat.ne_of_lt (Nat.lt_succ_of_lt hlS)
        have hSf : s.heap.objs.size ∉ [(s.heap.push { cls := .type "set", dict := none, data := .set #[] 0 (.fresh 0 0 led) }).objs.size, l] := by
          rw [Heap.size_push]; simp only [List.mem_cons, List.mem_singleton, List.not_mem_nil, or_false, not_or]
          exact ⟨Nat.ne_of_lt (Nat.lt_succ_self _), Nat.ne_of_gt hlS⟩
        have hsz : xs.length = items.size := by rw [← hi.len, Array.length_toList]
        have hval : ∀ (i : Nat) (v : Value), items[i]? = some v → ∃ k, xs[i]? = some k ∧ keyIs k v = true := fun i v hv => hi.get (by rw [Array.getElem?_toList]; exact hv)
        refine loopKey ((Walks.list hh3 _ l hneI items).toS) s.heap.objs.size
          hSf xs hsz hn1 hval (items.size - 0) 0 _ (by omega) (Nat.zero_le _)
          ⟨⟨_, Heap.get?_push_size _ rfl, rfl, rfl⟩, (hl1.push _)⟩ ?hS0 ?hR
        case hS0 =>
          have hget : ((s.heap.push { cls := .type "set", dict := none, data := .set #[] 0 (.fresh 0 0 led) }).push { cls := .type "list_iterator", data := .fields #[.ref l, .int 0 0] }).get? s.heap.objs.size
              = some { cls := .type "set", dict := none, data := .set #[] 0 (.fresh 0 0 led) } := Heap.get?_push_of_some _ hS
          exact PyProof.Rows.SetOf_congr ((PyProof.Rows.setObjOf_fresh (knd := mixKind prog w) led).setOf hget (by unfold scanBound; omega)) (fun _ => rfl) rfl
        case hR =>
          intro s' hm hS'
          obtain ⟨h', g', d', tk', os'⟩ := s'
          have eg : g' = s.gens := hm.gens
          have ed : d' = s.drawn := hm.drawn
          have eo : os' = s.os := hm.os
          subst eg; subst ed; subst eo
          show wpAny _ _ _ _ _ _
          refine wpAny_pure ?_
          show wpAny _ _ (ret Value.none) _ _ _
          refine wpAny_pure ⟨rfl, h', tk', rfl, hS', fun b o hb e => ?_⟩
          have hb1 : b ≠ s.heap.objs.size := Nat.ne_of_lt hb
          have hb2 : b ≠ (s.heap.push { cls := .type "set", dict := none, data := .set #[] 0 (.fresh 0 0 led) }).objs.size := by
            rw [Heap.size_push]; exact Nat.ne_of_lt (Nat.lt_succ_of_lt hb)
          exact hm.heap b o (by simp only [List.mem_cons, List.mem_singleton, List.not_mem_nil, or_false, not_or]; exact ⟨hb1, hb2⟩) (Heap.get?_push_of_some _ (Heap.get?_push_of_some _ e))

      · cases r₂ with
        | error e => exact hr₂
        | ok fl₂ =>
          cases fl₂ with
          | ret r =>
            obtain ⟨rfl, h', tk, rfl, hS', hk'⟩ := hr₂
            repeat (any_goals (first | assumption | wp_step))
            exact h _ _ hS' hk'
          | _ => exact hr₂.elim
    | _ => exact hr.elim


set_option maxHeartbeats 3200000 in
theorem call_set_tupleK {l : Addr} {items : Array Value} {xs : List Key} {Q : Value → Shared → Prop}
    (hh : A.handled = none) (hl : s.heap.IsTuple l items) (hi : KeysAre items.toList xs) (hn1 : xs.length + 1 < scanBound)
    (h : ∀ (h' : Heap) (tk : Nat), h'.SetOf (mixKind prog w) s.heap.objs.size (fun k' => memB k' (uniq xs)) (uniq xs).length →
      (∀ b o, b < s.heap.objs.size → s.heap.get? b = some o → h'.get? b = some o) → Q (.ref s.heap.objs.size) { s with heap := h', toks := tk }) :
    wpAny (model prog w) A (call (.type "set") [.ref l]) Q E s := by
  obtain ⟨c, tl, hmro⟩ := PySem.F.called_set.mro
  have hmade := PySem.F.called_set.made
  have hsub := PySem.F.called_set.sub
  refine wpAny_call (codeAny_of_tree ?_)
  show wpAny _ _ (callAny (.type "set") _) _ _ _
  refine wpAny_pure ⟨Code.quiet_builtin _ (by decide +kernel), codeAny_builtin PySem.F.entry_type_call ?_⟩
  rw [Around.under_plain (weight_type_call_type "set" [.ref l] []) rfl]
  have h1 := PySem.F.called_set.notType
  have h2 := PySem.F.called_set.canCreate
  have hct := PySem.F.typeCall_set_1 (.ref l)
  repeat (any_goals (first | assumption | wp_step))

  refine codeAny_mono (code_set_new_1 (.ref l) (E := E) (Q₁ := fun obj s₁ => ∃ led : Bool, obj = .ref s.heap.objs.size ∧ s₁ = { s with heap := s.heap.push { cls := .type "set", dict := none, data := .set #[] 0 (.fresh 0 0 led) } }) fun led => ⟨led, rfl, rfl⟩) fun r s₁ hr => ?_
  cases r with
  | error e => exact hr
  | ok fl =>
    cases fl with
    | ret obj =>
      obtain ⟨led, rfl, rfl⟩ := hr
      have hS : (s.heap.push { cls := .type "set", dict := none, data := .set #[] 0 (.fresh 0 0 led) }).get? s.heap.objs.size = some { cls := .type "set", dict := none, data := .set #[] 0 (.fresh 0 0 led) } := Heap.get?_push_size _ rfl
      have hT : Shared.TypeIs { s with heap := s.heap.push { cls := .type "set", dict := none, data := .set #[] 0 (.fresh 0 0 led) } } (.ref s.heap.objs.size) "set" := ⟨_, hS, rfl⟩
      have hli := PySem.F.called_set.init.lookup
      have hbi := PySem.F.called_set.init.bind (.ref s.heap.objs.size)
      repeat (any_goals (first | assumption | wp_step))

      refine codeAny_mono (codeAny_call_builtin (R := wants (fun r s₂ => r = .none ∧ ∃ h' tk, s₂ = { s with heap := h', toks := tk } ∧
          h'.SetOf (mixKind prog w) s.heap.objs.size (fun k' => memB k' (uniq xs)) (uniq xs).length ∧
          (∀ b o, b < s.heap.objs.size → s.heap.get? b = some o → h'.get? b = some o)) E) PySem.F.called_set.init.plain PySem.F.entry_set_init (check_set_init_1 hT ?_)) fun r₂ s₂ hr₂ => ?_
      · obtain ⟨ol, hol, hcl, nl, hdl⟩ := hl
        obtain ⟨ocls, odict, odata, oslots⟩ := ol
        simp only at hcl hdl
        subst hcl; subst hdl
        have hol' : (s.heap.push { cls := .type "set", dict := none, data := .set #[] 0 (.fresh 0 0 led) }).get? l = some { cls := .type "tuple", dict := odict, data := .seq items nl, slots := oslots } := Heap.get?_push_of_some _ hol
        have hsls := PySem.F.sub_tuple_set
        have hslf := PySem.F.sub_tuple_frozenset
        have hne : (Value.type "tuple" == Value.type "dict") = false := by decide
        have hl1 : (s.heap.push { cls := .type "set", dict := none, data := .set #[] 0 (.fresh 0 0 led) }).IsTuple l items := ⟨_, hol', rfl, nl, rfl⟩
        unfold Builtin.«set.__init__» noKeywords Builtin.Frozenset.updateFrom
        generalize hPI : pyIter = PI
        wp_walk
        subst hPI

        refine wpAny_pyIter_tuple hl1 ?_
        refine wpAny_bind (wpAny_runValue ?_)
        have hlS : l < s.heap.objs.size := Heap.lt_size hol
        have hh3 : A.in1.in1.in1.handled = none := by simp [hh]
        have hneI : l ≠ (s.heap.push { cls := .type "set", dict := none, data := .set #[] 0 (.fresh 0 0 led) }).objs.size := by
          rw [Heap.size_push]; exact Nat.ne_of_lt (Nat.lt_succ_of_lt hlS)
        have hSf : s.heap.objs.size ∉ [(s.heap.push { cls := .type "set", dict := none, data := .set #[] 0 (.fresh 0 0 led) }).objs.size, l] := by
          rw [Heap.size_push]; simp only [List.mem_cons, List.mem_singleton, List.not_mem_nil, or_false, not_or]
          exact ⟨Nat.ne_of_lt (Nat.lt_succ_self _), Nat.ne_of_gt hlS⟩
        have hsz : xs.length = items.size := by rw [← hi.len, Array.length_toList]
        have hval : ∀ (i : Nat) (v : Value), items[i]? = some v → ∃ k, xs[i]? = some k ∧ keyIs k v = true := fun i v hv => hi.get (by rw [Array.getElem?_toList]; exact hv)
        refine loopKey ((Walks.tuple hh3 _ l hneI items).toS) s.heap.objs.size
          hSf xs hsz hn1 hval (items.size - 0) 0 _ (by omega) (Nat.zero_le _)
          ⟨⟨_, Heap.get?_push_size _ rfl, rfl, rfl⟩, (hl1.push _)⟩ ?hS0 ?hR
        case hS0 =>
          have hget : ((s.heap.push { cls := .type "set", dict := none, data := .set #[] 0 (.fresh 0 0 led) }).push { cls := .type "tuple_iterator", data := .fields #[.ref l, .int 0 0] }).get? s.heap.objs.size
              = some { cls := .type "set", dict := none, data := .set #[] 0 (.fresh 0 0 led) } := Heap.get?_push_of_some _ hS
          exact PyProof.Rows.SetOf_congr ((PyProof.Rows.setObjOf_fresh (knd := mixKind prog w) led).setOf hget (by unfold scanBound; omega)) (fun _ => rfl) rfl
        case hR =>
          intro s' hm hS'
          obtain ⟨h', g', d', tk', os'⟩ := s'
          have eg : g' = s.gens := hm.gens
          have ed : d' = s.drawn := hm.drawn
          have eo : os' = s.os := hm.os
          subst eg; subst ed; subst eo
          show wpAny _ _ _ _ _ _
          refine wpAny_pure ?_
          show wpAny _ _ (ret Value.none) _ _ _
          refine wpAny_pure ⟨rfl, h', tk', rfl, hS', fun b o hb e => ?_⟩
          have hb1 : b ≠ s.heap.objs.size := Nat.ne_of_lt hb
          have hb2 : b ≠ (s.heap.push { cls := .type "set", dict := none, data := .set #[] 0 (.fresh 0 0 led) }).objs.size := by
            rw [Heap.size_push]; exact Nat.ne_of_lt (Nat.lt_succ_of_lt hb)
          exact hm.heap b o (by simp only [List.mem_cons, List.mem_singleton, List.not_mem_nil, or_false, not_or]; exact ⟨hb1, hb2⟩) (Heap.get?_push_of_some _ (Heap.get?_push_of_some _ e))

      · cases r₂ with
        | error e => exact hr₂
        | ok fl₂ =>
          cases fl₂ with
          | ret r =>
            obtain ⟨rfl, h', tk, rfl, hS', hk'⟩ := hr₂
            repeat (any_goals (first | assumption | wp_step))
            exact h _ _ hS' hk'
          | _ => exact hr₂.elim
    | _ => exact hr.elim


end
end DL

set_option Elab.async false
set_option linter.all false
set_option maxRecDepth 100000
set_option maxHeartbeats 4000000
set_option autoImplicit false
namespace DL
open PySem PySem.Spec PyProof.Rows L2
/-! ### len(set(xs)) -/
def keyD : D → Option Key
  | .int i => some (.inl i) | .str x => some (.inr x) | _ => none
def keysD : List D → Option (List Key)
  | [] => some []
  | d :: ds => match keyD d, keysD ds with | some k, some ks => some (k :: ks) | _, _ => none
theorem keyD_ok {K : PySem.W.Frag} {H : Hp} {N : Ns} {d : D} {v : V} {k : Key} (r : RD K H N d v) (h : keyD d = some k) : v = kV k := by
  cases d with
  | int i => cases h; exact r.of_int
  | str i => cases h; exact r.of_str
  | _ => cases h
theorem keysD_ok {K : PySem.W.Frag} {H : Hp} {N : Ns} : ∀ {ds : List D} {vs : List V} {ks : List Key}, RDs K H N ds vs → keysD ds = some ks → vs = ks.map kV
  | [], _, _, r, h => by cases h; exact r.of_nil
  | d :: ds, _, _, r, h => by
    obtain ⟨v, vs, rfl, r1, r2⟩ := r.of_cons
    unfold keysD at h
    split at h
    · rename_i k ks e1 e2
      cases h
      rw [keyD_ok r1 e1, keysD_ok r2 e2]; rfl
    · cases h
theorem keyIs_of {k : Key} {u : Value} (r : RelV (kV k) u) : keyIs k u = true := by
  cases k with
  | inl i => obtain ⟨t, rfl⟩ := r; exact keyIs_int i t
  | inr i => obtain ⟨t, rfl⟩ := r; exact keyIs_str i t
theorem keysAre_of : ∀ {ks : List Key} {us : List Value}, Vals (ks.map kV) us → KeysAre us ks
  | [], _, .nil => .nil
  | k :: ks, _, .cons r t => .cons (keyIs_of r) (keysAre_of t)
section
variable {X : Cx}
def dLenSet (te : DE) : DE := fun σ G R => te σ G fun x G1 => match (seqOf G1 x).bind keysD with | some ks => ks.length + 1 < scanBound ∧ R (.int (uniq ks).length) G1 | none => False
/-! ### what is walked -/
def iSeq (K : PySem.W.Frag) (tl : TE) : TI := fun σ H R => tl σ H fun x H1 => (∃ a, x = .ref a ∧ (∃ xs, SqL K H1 a xs) ∧ R (Itl K a) H1) ∨ (∃ a, x = .ref a ∧ (∃ xs, SqT K H1 a xs) ∧ R (Itt K a) H1) ∨ ∃ z, x = .str z ∧ R (Its z) H1
theorem pi_seq {tg l : Expr} {tl : TE} (hl : PE X l tl) : PI X tg l (iSeq X.K tl) := by
  refine ⟨fun pins s σ H R I h => thn (hl.run pins s σ H _ I h) fun v s1 ⟨x, H1, I1, r1, q1⟩ => ?_⟩
  rcases q1 with ⟨a, e, ⟨xs, hq⟩, q⟩ | ⟨a, e, ⟨xs, hq⟩, q⟩ | ⟨z, e, q⟩
  · subst e
    have hp : PE X l (fun _ _ Q => True) → True := fun _ => True.intro
    cases r1
    obtain ⟨its, rv, p, hz⟩ := I1.list hq
    exact wpAny_pyIter_list p.isList (pi_one (tk := s1.toks) I1 _ (turn_list a _) ⟨_, Heap.get?_push_size _ rfl, rfl, rfl⟩ q)
  · subst e
    cases r1
    obtain ⟨its, rv, p, hz⟩ := I1.tuple hq
    exact wpAny_pyIter_tuple (show s1.heap.IsTuple a its.toArray from p) (pi_one (tk := s1.toks) I1 _ (turn_tuple a _) ⟨_, Heap.get?_push_size _ rfl, rfl, rfl⟩ q)
  · subst e
    obtain ⟨t, rfl⟩ := r1
    cases ha : z.cps.all (· < 128)
    · exact wpAny_pyIter_wide ha (pi_one (tk := s1.toks) I1 _ (turn_str _ z t "str_iterator" (.inr rfl)) ⟨_, Heap.get?_push_size _ rfl, rfl, rfl⟩ q)
    · exact wpAny_pyIter_ascii ha (pi_one (tk := s1.toks) I1 _ (turn_str _ z t "str_ascii_iterator" (.inl rfl)) ⟨_, Heap.get?_push_size _ rfl, rfl, rfl⟩ q)
/-- a text's signsD -/
def signsD (z : Str) : List D := z.cps.toList.map fun c => .str ⟨#[c]⟩
def dIter (te : DE) : DI := fun σ G R => te σ G fun x G1 => match x with
  | .tup ds => R ds (fun _ => True) G1
  | .nt zs => R (zs.map .str) (fun _ => True) G1
  | .lst ds => R ds (fun _ => True) G1
  | .str z => R (signsD z) (fun _ => True) G1
  | .ref a => match G1 a with | some (.lst ds) => R ds (fun G => G a = some (.lst ds)) G1 | _ => False
  | _ => False
theorem yl_list {K : PySem.W.Frag} {H0 : Hp} {N0 : Ns} {G0 : Gp} {a : Addr} {ds : List D} {gd : Gp → Prop} (h : ∀ H N G, Stp K H0 N0 G0 H N G → gd G → ∃ vs, SqL K H a vs ∧ RDs K H N ds vs) : Yl K (Itl K a) H0 N0 G0 ds gd := by
  refine Yl.of (fun i H N G d s g e => ?_) (fun i H N G s g e => ?_)
  · obtain ⟨vs, sq, r⟩ := h H N G s g
    obtain ⟨v, hv, rv⟩ := r.get e
    refine ⟨⟨vs, v, sq, hv⟩, fun x H' y => ?_⟩
    obtain ⟨rfl, y⟩ := y
    have e2 := y vs sq
    rw [hv] at e2; cases e2
    exact ⟨Stp.refl s.rel, rv⟩
  · obtain ⟨vs, sq, r⟩ := h H N G s g
    exact ⟨vs, sq, by rw [← r.length]; exact e⟩
theorem yl_tup {K : PySem.W.Frag} {H0 : Hp} {N0 : Ns} {G0 : Gp} {a : Addr} {ds : List D} {vs : List V} (sq : SqT K H0 a vs) (r : RDs K H0 N0 ds vs) : Yl K (Itt K a) H0 N0 G0 ds fun _ => True := by
  refine Yl.of (fun i H N G d s g e => ?_) (fun i H N G s g e => ?_)
  · obtain ⟨v, hv, rv⟩ := (r.le s.kp).get e
    have sq' := SqT.le s.kp.kle sq
    refine ⟨⟨vs, v, sq', hv⟩, fun x H' y => ?_⟩
    obtain ⟨rfl, y⟩ := y
    have e2 := y vs sq'
    rw [hv] at e2; cases e2
    exact ⟨Stp.refl s.rel, rv⟩
  · exact ⟨vs, SqT.le s.kp.kle sq, by rw [← r.length]; exact e⟩
theorem yl_str {K : PySem.W.Frag} {H0 : Hp} {N0 : Ns} {G0 : Gp} {z : Str} : Yl K (Its z) H0 N0 G0 (signsD z) fun _ => True := by
  refine Yl.of (fun i H N G d s g e => ?_) (fun i H N G s g e => ?_)
  · unfold signsD at e
    rw [List.getElem?_map] at e
    cases ec : z.cps.toList[i]? with
    | none => rw [ec] at e; cases e
    | some c =>
      rw [ec] at e
      cases e
      have ec' : z.cps[i]? = some c := by rw [← Array.getElem?_toList]; exact ec
      refine ⟨(Array.getElem?_eq_some_iff.mp ec').1, fun x H' y => ?_⟩
      obtain ⟨rfl, c', e', rfl⟩ := y
      rw [ec'] at e'; cases e'
      exact ⟨Stp.refl s.rel, RD.str _⟩
  · unfold signsD at e
    rw [List.length_map, Array.length_toList] at e
    exact e
theorem qi_seq {tg l : Expr} {te : DE} (hl : QE X l te) : QI X tg l (dIter te) := pi_mono (pi_seq hl) fun τ H Q h => by
  obtain ⟨σ, G, N, R, hs, hg, ht, q⟩ := h
  refine ⟨σ, G, N, _, hs, hg, ht, fun x G1 N1 v1 H1 h1 s1 r1 => ?_⟩
  split at h1
  · obtain ⟨p, vs, rfl, sq, r⟩ := r1.of_tup
    exact .inr (.inl ⟨p, rfl, ⟨vs, sq⟩, q _ _ _ _ _ _ h1 s1 (yl_tup sq r)⟩)
  · obtain ⟨p, vs, rfl, sq, r⟩ := r1.nt_tup.of_tup
    exact .inr (.inl ⟨p, rfl, ⟨vs, sq⟩, q _ _ _ _ _ _ h1 s1 (yl_tup sq r)⟩)
  · obtain ⟨p, vs, rfl, sq, r⟩ := r1.of_lst
    exact .inl ⟨p, rfl, ⟨vs, sq.sq⟩, q _ _ _ _ _ _ h1 s1 (yl_list fun H N G s _ => ⟨vs, (sq.le s.kp).sq, r.le s.kp⟩)⟩
  · obtain rfl := r1.of_str
    exact .inr (.inr ⟨_, rfl, q _ _ _ _ _ _ h1 s1 yl_str⟩)
  · obtain rfl := r1.of_ref
    split at h1
    · rename_i ds e
      obtain ⟨_, vs, hv, r⟩ := s1.rel _ _ e
      exact .inl ⟨_, rfl, ⟨vs, SqL.of hv⟩, q _ _ _ _ _ _ h1 s1 (yl_list fun H N G s g => by
        obtain ⟨_, vs, hv, r⟩ := s.rel _ _ g
        exact ⟨vs, SqL.of hv, r⟩)⟩
    · exact h1.elim
  · exact h1.elim
/-- range(n) -/
def rng (lo : Int) (n : Nat) : List D := (List.range n).map fun i => .int (lo + (i : Nat))
theorem rng_length (lo : Int) (n : Nat) : (rng lo n).length = n := by unfold rng; rw [List.length_map, List.length_range]
theorem yl_rng {K : PySem.W.Frag} {H0 : Hp} {N0 : Ns} {G0 : Gp} {lo : Int} {n : Nat} : Yl K (Itr lo n) H0 N0 G0 (rng lo n) fun _ => True := by
  refine Yl.of (fun i H N G d s g e => ?_) (fun i H N G s g e => ?_)
  · have hi : i < n := by
      have := (List.getElem?_eq_some_iff.mp e).1
      rwa [rng_length] at this
    unfold rng at e
    rw [List.getElem?_map, List.getElem?_range hi] at e
    cases e
    refine ⟨hi, fun x H' y => ?_⟩
    obtain ⟨rfl, rfl⟩ := y
    exact ⟨Stp.refl s.rel, RD.int _⟩
  · rw [rng_length] at e; exact e
def dRng1 (ta : DA) : DI := fun σ G R => ta σ G fun ds G1 => match ds with | [.int j] => -(2 ^ 62) ≤ j ∧ j < 2 ^ 62 ∧ R (rng 0 j.toNat) (fun _ => True) G1 | _ => False
theorem qi_range1 {tg a : Expr} {ta : DA} {p pos : Pos} (hg : Gl X "range") (hm : X.mg "range" = none) (ha : QA X [a] ta) (hs : starEach [a] X.env = [(false, eval a X.env)] := by rfl) : QI X tg (.Call (.Name "range" p) [a] [] pos) (dRng1 ta) := pi_mono (pi_range1 hg hm ha hs) fun τ H Q h => by
  obtain ⟨σ, G, N, R, hs, hg, ht, q⟩ := h
  refine ⟨σ, G, N, _, hs, hg, ht, fun ds G1 N1 vs H1 h1 s1 r1 => ?_⟩
  split at h1
  · rename_i j
    obtain ⟨v, r, rfl, r2, r3⟩ := r1.of_cons
    rw [r3.of_nil, r2.of_int]
    exact ⟨j, rfl, h1.1, h1.2.1, q _ _ _ _ _ _ h1.2.2 s1 yl_rng⟩
  · exact h1.elim
/-- enumerate(list) -/
def enumD (lo : Int) : List D → List D
  | [] => []
  | d :: ds => .tup [.int lo, d] :: enumD (lo + 1) ds
theorem enumD_get : ∀ (ds : List D) (lo : Int) (i : Nat), (enumD lo ds)[i]? = (ds[i]?).map fun d => .tup [.int (lo + i), d]
  | [], lo, i => by simp [enumD]
  | d :: ds, lo, 0 => by simp [enumD]
  | d :: ds, lo, i + 1 => by
    rw [enumD, List.getElem?_cons_succ, List.getElem?_cons_succ, enumD_get ds (lo + 1) i]
    congr 1
    funext x
    rw [show lo + 1 + (i : Int) = lo + ((i + 1 : Nat) : Int) by push_cast; omega]
theorem enumD_length : ∀ (ds : List D) (lo : Int), (enumD lo ds).length = ds.length
  | [], _ => rfl
  | d :: ds, lo => by rw [enumD, List.length_cons, List.length_cons, enumD_length ds]
theorem yl_enum {K : PySem.W.Frag} {H0 : Hp} {N0 : Ns} {G0 : Gp} {a : Addr} {ds : List D} {gd : Gp → Prop} (h : ∀ H N G, Stp K H0 N0 G0 H N G → gd G → ∃ vs, SqL K H a vs ∧ RDs K H N ds vs) : Yl K (Ite K a) H0 N0 G0 (enumD 0 ds) gd := by
  refine Yl.of (fun i H N G d s g e => ?_) (fun i H N G s g e => ?_)
  · obtain ⟨vs, sq, r⟩ := h H N G s g
    rw [enumD_get] at e
    cases ed : ds[i]? with
    | none => rw [ed] at e; cases e
    | some d0 =>
      rw [ed] at e
      cases e
      obtain ⟨v, hv, rv⟩ := r.get ed
      refine ⟨⟨vs, v, sq, hv⟩, fun x H' y => ?_⟩
      obtain ⟨T, x1, rfl, nT, rfl, y⟩ := y
      have e2 := y vs sq
      rw [hv] at e2; cases e2
      have s2 := Stp.new0 (u := .tup [.int ((i : Nat) : Int), v]) s.rel nT
      refine ⟨s2, RD.tup (.inl (.inl upd_same)) (RDs.cons ?_ (RDs.cons (rv.le s2.kp) RDs.nil))⟩
      rw [Int.zero_add]
      exact RD.int _
  · obtain ⟨vs, sq, r⟩ := h H N G s g
    rw [enumD_length] at e
    exact ⟨vs, sq, by rw [← r.length]; exact e⟩
def dEnum (ta : DA) : DI := fun σ G R => ta σ G fun ds G1 => match ds with
  | [.lst xs] => R (enumD 0 xs) (fun _ => True) G1
  | [.ref a] => (match G1 a with | some (.lst xs) => R (enumD 0 xs) (fun G => G a = some (.lst xs)) G1 | _ => False)
  | _ => False
theorem qi_enum {e : Expr} {ta : DA} {p pos tpos : Pos} {elts : List Expr} {kk : Nat} (hg : Gl X "enumerate") (hm : X.mg "enumerate" = none) (ha : QA X [e] ta) (hs : starEach [e] X.env = [(false, eval e X.env)] := by rfl) :
    QI X (.Tuple elts kk tpos) (.Call (.Name "enumerate" p) [e] [] pos) (dEnum ta) := pi_mono (pi_enum hg hm ha hs) fun τ H Q h => by
  obtain ⟨σ, G, N, R, hs, hg, ht, q⟩ := h
  refine ⟨σ, G, N, _, hs, hg, ht, fun ds G1 N1 vs H1 h1 s1 r1 => ?_⟩
  split at h1
  · obtain ⟨v, r, rfl, r2, r3⟩ := r1.of_cons
    rw [r3.of_nil]
    obtain ⟨p, vs, rfl, sq, r⟩ := r2.of_lst
    exact ⟨p, vs, rfl, sq.sq, q _ _ _ _ _ _ h1 s1 (yl_enum fun H N G s _ => ⟨vs, (sq.le s.kp).sq, r.le s.kp⟩)⟩
  · obtain ⟨v, r, rfl, r2, r3⟩ := r1.of_cons
    rw [r3.of_nil]
    obtain rfl := r2.of_ref
    split at h1
    · rename_i xs e
      obtain ⟨_, vs, hv, r⟩ := s1.rel _ _ e
      exact ⟨_, vs, rfl, SqL.of hv, q _ _ _ _ _ _ h1 s1 (yl_enum fun H N G s g => by
        obtain ⟨_, vs, hv, r⟩ := s.rel _ _ g
        exact ⟨vs, SqL.of hv, r⟩)⟩
    · exact h1.elim
  · exact h1.elim
/-! ### f(k = v, ..) -/
variable {k : Nat} {f : Addr} {fd : FuncData} {ps ks : List Str} {sp : DSp} {x : Str} {p pos : Pos} {kws : List Keyword} {tk : DA}
def QK (X : Cx) (kws : List Keyword) (t : DA) : Prop := PK X kws (upA X.K t)
theorem pk_mono {t t' : TA} (h : PK X kws t) (i : ∀ τ H Q, t' τ H Q → t τ H Q) : PK X kws t' := ⟨fun pos pins s σ H Q I q => h.run pos pins s σ H Q I (i σ H Q q)⟩
theorem qk_nil : QK X [] dNil := pk_mono pk_nil fun τ H Q h => by
  obtain ⟨σ, G, N, R, hs, hg, ht, q⟩ := h
  exact q [] G N [] H ht (Stp.refl hg) RDs.nil
theorem qk_cons {e : Expr} {t : DE} {tr : DA} {nm : Option Str} {kpos : Pos} (ha : QE X e t) (hr : QK X kws tr) : QK X (⟨nm, e, kpos⟩ :: kws) (dCons t tr) := pk_mono (pk_cons ha hr) fun τ H Q h => by
  obtain ⟨σ, G, N, R, hs, hg, ht, q⟩ := h
  refine ⟨σ, G, N, _, hs, hg, ht, fun x G1 N1 v1 H1 h1 s1 r1 => ?_⟩
  refine ⟨σ, G1, N1, _, hs.le s1.kp, s1.rel, h1, fun ds G2 N2 vs H2 h2 s2 r2 => ?_⟩
  exact q _ G2 N2 _ H2 h2 (s1.trans s2) (RDs.cons (r1.le s2.kp) r2)
/-- by names alone: the promise is asked at the values in the parameters' order (g) -/
def dCallK (sp : DSp) (g : List D → List D) (n : Nat) (tk : DA) : DE := fun σ G R => tk σ G fun ds G1 => ds.length = n ∧ sp (g ds) G1 R
theorem qe_callK {g : List D → List D} {gu : List Value → List Value} {gv : List V → List V} (F : FnD X.prog X.w X.K X.mg X.base k f fd ps sp) (hr : Room k X.A) (hg : Gl X x) (hm : X.mg x = some (.ref f)) (hk : PySem.W.keepIn X.K (.ref f) = true)
    (hb : ∀ (s : Shared) (ws : List Value), ws.length = ks.length → BindsTo s fd ⟨[], ks.zip ws⟩ (ps.zip (gu ws))) (h1 : ∀ {vs us}, Vals vs us → Vals (gv vs) (gu us)) (h2 : ∀ {H N ds vs}, RDs X.K H N ds vs → RDs X.K H N (g ds) (gv vs))
    (hkw : QK X kws tk) (hall : (backToKw pos (keywordEach kws X.env)).all (·.1.isSome) = true := by rfl) (hks : (backToKw pos (keywordEach kws X.env)).filterMap (·.1) = ks := by rfl)
    (hdb : (x == ("__debug__" : Str)) = false := by decide) (hpl : ((backTo pos (starEach [] X.env)).any (·.1) || (backToKw pos (keywordEach kws X.env)).any (·.1.isNone)) = false := by rfl) :
    QE X (.Call (.Name x p) [] kws pos) (dCallK sp g ks.length tk) := by
  refine ⟨fun pins s τ H Q I h => ?_⟩
  obtain ⟨σ, G, N, R, hs, hgg, ht, q⟩ := h
  refine wpAny_Call_Name_kw (ld_glob I hg hm ?_ hdb)
  refine PySem.W.callWith_KW0 (h₀ := X.base) I.ok.mod.kin hk hall ?_ hpl
  refine thn (hkw.run pos pins s τ H (fun vs H1 => vs.length = ks.length ∧ upSp X.K sp (gv vs) H1 Q E0) I ⟨σ, G, N, _, hs, hgg, ht, fun ds G1 N1 vs H1 h3 s1 r1 => ?_⟩) fun ws s2 ⟨zs, H2, I2, rz, l2, q2⟩ => ⟨I2.kIn, ?_⟩
  · exact ⟨by rw [← r1.length]; exact h3.1, g ds, G1, N1, R, h2 r1, s1.rel, h3.2, q.le s1⟩
  · rw [hks]
    refine wpAny_call (codeAny_mono (FnOk.run F X.A X.stack s2 H2 ⟨[], ks.zip ws⟩ (gu ws) (gv zs) Q E0 hr I2.env0 (hb s2 ws (by rw [← rz.length]; exact l2)) (h1 rz) q2) fun r s' hq => ?_)
    cases r with
    | error e => exact (show False from hq).elim
    | ok fl =>
      cases fl with
      | ret u => exact I2.after hq
      | next => exact False.elim hq
      | brk => exact False.elim hq
      | cont => exact False.elim hq
end
end DL

set_option Elab.async false
set_option linter.all false
set_option maxRecDepth 100000
set_option maxHeartbeats 4000000
set_option autoImplicit false
namespace DL
open PySem PySem.Spec PyProof.Rows L2
section
variable {X : Cx}
theorem qe_globI {x : Str} {i : Int} {pos : Pos} (hg : Gl X x) (hm : ∃ t, X.mg x = some (.int i t)) (hd : (x == ("__debug__" : Str)) = false := by decide) : QE X (.Name x pos) (dC (.int i)) := by
  obtain ⟨t, h⟩ := hm
  exact qe_glob (v := .int i) hg h ⟨t, rfl⟩ (fun _ _ => RD.int i) hd
theorem qe_globS {x : Str} {i : Str} {pos : Pos} (hg : Gl X x) (hm : ∃ t, X.mg x = some (.str i t)) (hd : (x == ("__debug__" : Str)) = false := by decide) : QE X (.Name x pos) (dC (.str i)) := by
  obtain ⟨t, h⟩ := hm
  exact qe_glob (v := .str i) hg h ⟨t, rfl⟩ (fun _ _ => RD.str i) hd
end
end DL

set_option Elab.async false
set_option linter.all false
set_option maxRecDepth 100000
set_option maxHeartbeats 4000000
set_option autoImplicit false
namespace DL
open PySem PySem.Spec PyProof.Rows L2
/-! ### readings -/
theorem at_K {K : PySem.W.Frag} {h : Heap} (_ : K.In h) (Q : PySem.W.Frag → Prop) (q : Q K) : Q K := q
theorem ret_same {R : DK} {d : D} {G : Gp} (h : R d G) : ∃ d' G', Wk G d d' G' ∧ R d' G' := ⟨d, G, .same (Sub.refl G), h⟩
theorem ret_sub {R : DK} {d : D} {G G0 : Gp} (s : Sub G0 G) (h : R d G0) : ∃ d' G', Wk G d d' G' ∧ R d' G' := ⟨d, G0, .same s, h⟩
theorem ret_lst {R : DK} {p : Addr} {ds : List D} {G G0 : Gp} (e : G p = some (.lst ds)) (s : Sub G0 G) (n : G0 p = none) (h : R (.lst ds) G0) : ∃ d' G', Wk G (.ref p) d' G' ∧ R d' G' := ⟨_, G0, .lst e s n, h⟩
theorem lc_pure {g : DG} {te : DE} {σ : Sd} {gd : Gp → Prop} {G : Gp} (f : D → D) (hg : gd G) : ∀ (xs acc : List D), (∀ x ∈ xs, ∀ Q : DK, Q (f x) G → g x σ G fun σ2 G2 => te σ2 G2 Q) → ∀ Q : List D → Gp → Prop, Q (acc ++ xs.map f) G → dLcGo g dYes te gd σ xs acc G Q
  | [], acc, _, Q, h => ⟨hg, by simpa using h⟩
  | x :: xs, acc, hf, Q, h => ⟨hg, hf x List.mem_cons_self _ (lc_pure f hg xs (acc ++ [f x]) (fun y hy => hf y (List.mem_cons_of_mem _ hy)) Q (by simpa using h))⟩
theorem fnd_never {P : Program} {w : World} {K : PySem.W.Frag} {mg : Str → Option Value} {base : Heap} {k : Nat} {f : Addr} {fd : FuncData} {ps : List Str} : FnD P w K mg base k f fd ps (fun _ _ _ => False) :=
  ⟨fun vs H Q E h => by obtain ⟨_, _, _, _, _, _, h, _⟩ := h; exact h.elim, fun A outer s H args us vs Q E _ _ _ _ h => by obtain ⟨_, _, _, _, _, _, h, _⟩ := h; exact h.elim⟩
theorem gup_comm {G : Gp} {a b : Addr} {o u : GO} (h : a ≠ b) : gup (gup G a o) b u = gup (gup G b u) a o := by
  funext c; unfold gup
  by_cases e1 : c = b
  · by_cases e2 : c = a
    · exact absurd (e2.symm.trans e1) h
    · rw [if_pos e1, if_neg e2, if_pos e1]
  · by_cases e2 : c = a
    · rw [if_neg e1, if_pos e2, if_pos e2]
    · rw [if_neg e1, if_neg e2, if_neg e2, if_neg e1]
/-! ### plain data -/
mutual
def plD : D → Bool
  | .non => true | .bl _ => true | .int _ => true | .str z => decide (z.length ≤ 1000) && z.cps.toList.all fun c => decide (c < 1114112)
  | .tup ds => decide (ds.length ≤ 1000) && plDs ds
  | .lst ds => decide (ds.length ≤ 1000) && plDs ds
  | .any n => n == "dict"
  | _ => false
def plDs : List D → Bool
  | [] => true
  | d :: ds => plD d && plDs ds
end
theorem plDs_mem : ∀ {ds : List D} {d : D}, plDs ds = true → d ∈ ds → plD d = true
  | [], _, _, h => by cases h
  | e :: ds, d, p, h => by
    simp only [plDs, Bool.and_eq_true] at p
    rcases List.mem_cons.mp h with h | h
    · subst h; exact p.1
    · exact plDs_mem p.2 h
theorem plDs_of : ∀ {ds : List D}, (∀ d ∈ ds, plD d = true) → plDs ds = true
  | [], _ => by simp only [plDs]
  | e :: ds, h => by simp only [plDs, Bool.and_eq_true]; exact ⟨h e List.mem_cons_self, plDs_of fun d hd => h d (List.mem_cons_of_mem _ hd)⟩
theorem pl_tup {ds : List D} : plD (.tup ds) = true ↔ ds.length ≤ 1000 ∧ ∀ d ∈ ds, plD d = true := by
  simp only [plD, Bool.and_eq_true, decide_eq_true_eq]
  exact ⟨fun h => ⟨h.1, fun d hd => plDs_mem h.2 hd⟩, fun h => ⟨h.1, plDs_of h.2⟩⟩
theorem pl_str {z : Str} : plD (.str z) = true ↔ z.length ≤ 1000 ∧ ∀ c ∈ z.cps.toList, c < 1114112 := by
  simp only [plD, Bool.and_eq_true, decide_eq_true_eq, List.all_eq_true]
def tyP : D → String
  | .non => "NoneType" | .bl _ => "bool" | .int _ => "int" | .str _ => "str" | .tup _ => "tuple" | .nt _ => "tuple" | .lst _ => "list" | .any n => n | _ => ""
theorem tyD_pl {x : D} (h : plD x = true) (G : Gp) : tyD G x = some (tyP x) := by
  cases x with
  | any n =>
    simp only [plD, Bool.or_eq_true, beq_iff_eq] at h
    simp [tyD, tyP, h]
  | ref a => simp [plD] at h
  | ty a => simp [plD] at h
  | nt a => simp [plD] at h
  | _ => rfl
def isIntD : D → Bool | .int _ => true | .bl _ => true | _ => false
def isBl : D → Bool | .bl _ => true | _ => false
def isStr : D → Bool | .str _ => true | _ => false
def isTup : D → Bool | .tup _ => true | _ => false
def isWhole : D → Bool | .int _ => true | _ => false
theorem isTy_any {n t : String} (h : plD (.any n) = true) (h1 : t ≠ "list") (h2 : t ≠ "dict") : isTy n t = false := by
  simp only [plD, Bool.or_eq_true, beq_iff_eq] at h
  have e : ∀ m : String, m = "list" ∨ m = "dict" → isTy m t = false := by
    rintro m (rfl | rfl)
    · unfold isTy
      rw [show ("list" == t) = false from beq_eq_false_iff_ne.mpr fun z => h1 z.symm]
      rfl
    · unfold isTy
      rw [show ("dict" == t) = false from beq_eq_false_iff_ne.mpr fun z => h2 z.symm]
      rfl
  exact e n (.inr h)
theorem isi_pl {x : D} (h : plD x = true) {G : Gp} {n : String} {R : DK} (hn : n ∈ knownTy) : dIsi [x, .ty n] G R ↔ R (.bl (isTy (tyP x) n)) G := by
  unfold dIsi
  simp only [tyD_pl h G]
  exact ⟨fun q => q.2, fun q => ⟨hn, q⟩⟩
theorem isi_int {x : D} (h : plD x = true) {G : Gp} {R : DK} : dIsi [x, .ty "int"] G R ↔ R (.bl (isIntD x)) G := by
  rw [isi_pl h (by decide)]
  have e : isTy (tyP x) "int" = isIntD x := by
    cases x with
    | any n => exact isTy_any h (by decide) (by decide)
    | ref a => simp [plD] at h
    | ty a => simp [plD] at h
    | nt a => simp [plD] at h
    | _ => rfl
  rw [e]
theorem isi_bool {x : D} (h : plD x = true) {G : Gp} {R : DK} : dIsi [x, .ty "bool"] G R ↔ R (.bl (isBl x)) G := by
  rw [isi_pl h (by decide)]
  have e : isTy (tyP x) "bool" = isBl x := by
    cases x with
    | any n => exact isTy_any h (by decide) (by decide)
    | ref a => simp [plD] at h
    | ty a => simp [plD] at h
    | nt a => simp [plD] at h
    | _ => rfl
  rw [e]
theorem isi_str {x : D} (h : plD x = true) {G : Gp} {R : DK} : dIsi [x, .ty "str"] G R ↔ R (.bl (isStr x)) G := by
  rw [isi_pl h (by decide)]
  have e : isTy (tyP x) "str" = isStr x := by
    cases x with
    | any n => exact isTy_any h (by decide) (by decide)
    | ref a => simp [plD] at h
    | ty a => simp [plD] at h
    | nt a => simp [plD] at h
    | _ => rfl
  rw [e]
theorem isi_tup {x : D} (h : plD x = true) {G : Gp} {R : DK} : dIsi [x, .ty "tuple"] G R ↔ R (.bl (isTup x)) G := by
  rw [isi_pl h (by decide)]
  have e : isTy (tyP x) "tuple" = isTup x := by
    cases x with
    | any n => exact isTy_any h (by decide) (by decide)
    | ref a => simp [plD] at h
    | ty a => simp [plD] at h
    | nt a => simp [plD] at h
    | _ => rfl
  rw [e]
/-! ### == of data -/
mutual
def pyD : D → Bool
  | .non => true | .bl _ => true | .int _ => true | .str z => z.cps.toList.all fun c => decide (c < 1114112)
  | .tup ds => pyDs ds
  | .lst ds => pyDs ds
  | _ => false
def pyDs : List D → Bool
  | [] => true
  | d :: ds => pyD d && pyDs ds
end
mutual
def depD : D → Nat
  | .tup ds => depDs ds + 1
  | .lst ds => depDs ds + 1
  | _ => 0
def depDs : List D → Nat
  | [] => 0
  | d :: ds => max (depD d) (depDs ds)
end
mutual
def eqD : D → D → Bool
  | .non, .non => true
  | .bl a, .bl b => a == b
  | .bl a, .int j => (if a then 1 else 0) == j
  | .int i, .bl b => i == (if b then 1 else 0)
  | .int i, .int j => i == j
  | .str x, .str y => x == y
  | .tup xs, .tup ys => eqDs xs ys
  | .lst xs, .lst ys => eqDs xs ys
  | _, _ => false
def eqDs : List D → List D → Bool
  | [], [] => true
  | x :: xs, y :: ys => eqD x y && eqDs xs ys
  | _, _ => false
end
mutual
theorem toPy_pure : ∀ {d : D}, pyD d = true → ∃ a, toPy d = some a ∧ a.canLay0 = true ∧ a.depth = depD d
  | .non, _ => ⟨.none, by simp only [toPy], by simp [PyData.canLay0], by simp [PyData.depth, depD]⟩
  | .bl b, _ => ⟨.bool b, by simp only [toPy], by simp [PyData.canLay0], by simp [PyData.depth, depD]⟩
  | .int i, _ => ⟨.int i, by simp only [toPy], by simp [PyData.canLay0], by simp [PyData.depth, depD]⟩
  | .str z, h => ⟨.str z, by simp only [toPy], by
      simp only [pyD] at h
      simp only [PyData.canLay0, PyData.strOk]
      rw [← Array.all_toList]
      exact h, by simp [PyData.depth, depD]⟩
  | .tup ds, h => by
    simp only [pyD] at h
    obtain ⟨as, h1, h2, h3⟩ := toPys_pure h
    exact ⟨.tuple as, by simp only [toPy, h1, Option.map_some], by simpa [PyData.canLay0] using h2, by simp only [PyData.depth, depD, h3]⟩
  | .lst ds, h => by
    simp only [pyD] at h
    obtain ⟨as, h1, h2, h3⟩ := toPys_pure h
    exact ⟨.list as, by simp only [toPy, h1, Option.map_some], by simpa [PyData.canLay0] using h2, by simp only [PyData.depth, depD, h3]⟩
  | .ty _, h => by simp [pyD] at h
  | .ref _, h => by simp [pyD] at h
  | .any _, h => by simp [pyD] at h
theorem toPys_pure : ∀ {ds : List D}, pyDs ds = true → ∃ as, toPys ds = some as ∧ PyData.canLayAll0 as = true ∧ PyData.depthAll as = depDs ds
  | [], _ => ⟨[], by simp only [toPys], by simp [PyData.canLayAll0], by simp [PyData.depthAll, depDs]⟩
  | d :: ds, h => by
    simp only [pyDs, Bool.and_eq_true] at h
    obtain ⟨a, h1, h2, h3⟩ := toPy_pure h.1
    obtain ⟨as, h4, h5, h6⟩ := toPys_pure h.2
    exact ⟨a :: as, by simp only [toPys, h1, h4], by simp [PyData.canLayAll0, h2, h5], by simp only [PyData.depthAll, depDs, h3, h6]⟩
end
def ShapeOf (c : D) (a : PyData) : Prop := match c with
  | .non => a = .none | .bl b => a = .bool b | .int i => a = .int i | .str z => a = .str z
  | .tup ds => ∃ as, a = .tuple as ∧ toPys ds = some as
  | .lst ds => ∃ as, a = .list as ∧ toPys ds = some as
  | _ => False
theorem toPy_shape {c : D} {a : PyData} (h : toPy c = some a) : ShapeOf c a := by
  cases c with
  | tup ds =>
    simp only [toPy] at h
    cases e1 : toPys ds with
    | none => rw [e1] at h; cases h
    | some as => rw [e1] at h; cases h; exact ⟨as, rfl, e1⟩
  | lst ds =>
    simp only [toPy] at h
    cases e1 : toPys ds with
    | none => rw [e1] at h; cases h
    | some as => rw [e1] at h; cases h; exact ⟨as, rfl, e1⟩
  | _ => simp only [toPy] at h <;> first | (cases h; done) | (cases h; rfl)
mutual
theorem eqv_eqD : ∀ {c d : D} {a b : PyData}, toPy c = some a → toPy d = some b → PyData.eqv a b = eqD c d
  | .tup xs, .tup ys, a, b, h1, h2 => by
    obtain ⟨as, rfl, e1⟩ := toPy_shape h1
    obtain ⟨bs, rfl, e2⟩ := toPy_shape h2
    simp only [PyData.eqv, eqD]
    exact eqv_eqDs e1 e2
  | .lst xs, .lst ys, a, b, h1, h2 => by
    obtain ⟨as, rfl, e1⟩ := toPy_shape h1
    obtain ⟨bs, rfl, e2⟩ := toPy_shape h2
    simp only [PyData.eqv, eqD]
    exact eqv_eqDs e1 e2
  | .tup xs, .lst ys, a, b, h1, h2 => by
    obtain ⟨as, rfl, e1⟩ := toPy_shape h1
    obtain ⟨bs, rfl, e2⟩ := toPy_shape h2
    simp only [PyData.eqv, eqD]
  | .lst xs, .tup ys, a, b, h1, h2 => by
    obtain ⟨as, rfl, e1⟩ := toPy_shape h1
    obtain ⟨bs, rfl, e2⟩ := toPy_shape h2
    simp only [PyData.eqv, eqD]
  | .tup xs, .non, a, b, h1, h2 | .tup xs, .bl _, a, b, h1, h2 | .tup xs, .int _, a, b, h1, h2 | .tup xs, .str _, a, b, h1, h2
  | .lst xs, .non, a, b, h1, h2 | .lst xs, .bl _, a, b, h1, h2 | .lst xs, .int _, a, b, h1, h2 | .lst xs, .str _, a, b, h1, h2 => by
    obtain ⟨as, rfl, e1⟩ := toPy_shape h1
    have s2 := toPy_shape h2
    simp only [ShapeOf] at s2
    subst s2
    simp only [PyData.eqv, eqD]
  | .non, .tup ys, a, b, h1, h2 | .bl _, .tup ys, a, b, h1, h2 | .int _, .tup ys, a, b, h1, h2 | .str _, .tup ys, a, b, h1, h2
  | .non, .lst ys, a, b, h1, h2 | .bl _, .lst ys, a, b, h1, h2 | .int _, .lst ys, a, b, h1, h2 | .str _, .lst ys, a, b, h1, h2 => by
    obtain ⟨bs, rfl, e1⟩ := toPy_shape h2
    have s1 := toPy_shape h1
    simp only [ShapeOf] at s1
    subst s1
    simp only [PyData.eqv, eqD]
  | .ty _, _, a, b, h1, h2 | .ref _, _, a, b, h1, h2 | .any _, _, a, b, h1, h2 => (toPy_shape h1).elim
  | _, .ty _, a, b, h1, h2 | _, .ref _, a, b, h1, h2 | _, .any _, a, b, h1, h2 => (toPy_shape h2).elim
  | .non, .non, a, b, h1, h2 | .non, .bl _, a, b, h1, h2 | .non, .int _, a, b, h1, h2 | .non, .str _, a, b, h1, h2
  | .bl _, .non, a, b, h1, h2 | .bl _, .bl _, a, b, h1, h2 | .bl _, .int _, a, b, h1, h2 | .bl _, .str _, a, b, h1, h2
  | .int _, .non, a, b, h1, h2 | .int _, .bl _, a, b, h1, h2 | .int _, .int _, a, b, h1, h2 | .int _, .str _, a, b, h1, h2
  | .str _, .non, a, b, h1, h2 | .str _, .bl _, a, b, h1, h2 | .str _, .int _, a, b, h1, h2 | .str _, .str _, a, b, h1, h2 => by
    have s1 := toPy_shape h1
    have s2 := toPy_shape h2
    simp only [ShapeOf] at s1 s2
    subst s1 s2
    simp only [PyData.eqv, eqD]
theorem eqv_eqDs : ∀ {cs ds : List D} {as bs : List PyData}, toPys cs = some as → toPys ds = some bs → PyData.eqvAll as bs = eqDs cs ds
  | [], [], _, _, h1, h2 => by simp only [toPys] at h1 h2; cases h1; cases h2; simp only [PyData.eqvAll, eqDs]
  | [], d :: ds, _, _, h1, h2 => by
    simp only [toPys] at h1 h2
    split at h2
    · cases h1; cases h2; simp only [PyData.eqvAll, eqDs]
    · cases h2
  | c :: cs, [], _, _, h1, h2 => by
    simp only [toPys] at h1 h2
    split at h1
    · cases h1; cases h2; simp only [PyData.eqvAll, eqDs]
    · cases h1
  | c :: cs, d :: ds, _, _, h1, h2 => by
    simp only [toPys] at h1 h2
    split at h1
    · split at h2
      · rename_i a as e1 e2 _ _ b bs e3 e4
        cases h1; cases h2
        simp only [PyData.eqvAll, eqDs, eqv_eqD e1 e3, eqv_eqDs e2 e4]
      · cases h2
    · cases h1
end
theorem gPy_pure {G : Gp} {d : D} (h : pyD d = true) : gPy G d = toPy d := by
  cases d with
  | ref a => simp [pyD] at h
  | _ => rfl
theorem eqD_scal_int (i j : Int) : eqD (.int i) (.int j) = decide (i = j) := by simp only [eqD]; rw [Bool.eq_iff_iff]; simp
theorem eqD_scal_str (i j : Str) : eqD (.str i) (.str j) = decide (i = j) := by simp only [eqD]; rw [Bool.eq_iff_iff]; simp
theorem eqD_scal_bl (i j : Bool) : eqD (.bl i) (.bl j) = decide (i = j) := by simp only [eqD]; rw [Bool.eq_iff_iff]; simp
theorem eqW_pure {f : Bool → Bool} {c d : D} {G : Gp} {R : DK} (hc : pyD c = true) (hd : pyD d = true) (lc : depD c ≤ 64) (ld : depD d ≤ 64) : dEqW f c d G R ↔ R (.bl (f (eqD c d))) G := by
  unfold dEqW
  split
  · rw [eqD_scal_int]
  · rw [eqD_scal_str]
  · rw [eqD_scal_bl]
  · simp only [eqD]
  · obtain ⟨a, h1, h2, h3⟩ := toPy_pure hc
    obtain ⟨b, h4, h5, h6⟩ := toPy_pure hd
    rw [gPy_pure hc, gPy_pure hd, h1, h4]
    simp only [eqv_eqD h1 h4]
    have s1 : SeqAt.shaped a = true := by unfold SeqAt.shaped; rw [h2, h3, decide_eq_true lc]; rfl
    have s2 : SeqAt.shaped b = true := by unfold SeqAt.shaped; rw [h5, h6, decide_eq_true ld]; rfl
    exact ⟨fun z => z.2.2, fun z => ⟨s1, s2, z⟩⟩
theorem eq_pure {c d : D} {G : Gp} {R : DK} (hc : pyD c = true) (hd : pyD d = true) (lc : depD c ≤ 64) (ld : depD d ≤ 64) : dEq c d G R ↔ R (.bl (eqD c d)) G := eqW_pure hc hd lc ld
theorem ne_pure {c d : D} {G : Gp} {R : DK} (hc : pyD c = true) (hd : pyD d = true) (lc : depD c ≤ 64) (ld : depD d ≤ 64) : dNe c d G R ↔ R (.bl (!eqD c d)) G := eqW_pure hc hd lc ld
theorem pyDs_of : ∀ {ds : List D}, (∀ d ∈ ds, pyD d = true) → pyDs ds = true
  | [], _ => by simp only [pyDs]
  | e :: ds, h => by simp only [pyDs, Bool.and_eq_true]; exact ⟨h e List.mem_cons_self, pyDs_of fun d hd => h d (List.mem_cons_of_mem _ hd)⟩
theorem depDs_le : ∀ {ds : List D} {n : Nat}, (∀ d ∈ ds, depD d ≤ n) → depDs ds ≤ n
  | [], _, _ => by simp only [depDs]; omega
  | e :: ds, n, h => by
    have h1 := h e List.mem_cons_self
    have h2 := depDs_le (n := n) fun d hd => h d (List.mem_cons_of_mem e hd)
    simp only [depDs]; omega
theorem small_line {n : Nat} (h : n ≤ 1000) : n ≤ sizeLine := Nat.le_of_lt (small1000 h)
theorem len_str {z : Str} {G : Gp} {R : DK} (h : z.length ≤ 1000) : dLen [.str z] G R ↔ R (.int z.length) G := by
  unfold dLen
  exact ⟨fun q => q.2, fun q => ⟨small_line h, q⟩⟩
theorem len_tup {ds : List D} {G : Gp} {R : DK} : dLen [.tup ds] G R ↔ R (.int ds.length) G := by unfold dLen; simp only [seqOf]
theorem len_lst {ds : List D} {G : Gp} {R : DK} : dLen [.lst ds] G R ↔ R (.int ds.length) G := by unfold dLen; simp only [seqOf, lstOf]
theorem len_ref {p : Addr} {ds : List D} {G : Gp} {R : DK} (e : G p = some (.lst ds)) : dLen [.ref p] G R ↔ R (.int ds.length) G := by unfold dLen; simp only [seqOf, lstOf, e]
theorem all_lst {bs : List Bool} {G : Gp} {R : DK} : dAll [.lst (bs.map D.bl)] G R ↔ R (.bl (bs.all id)) G := by
  unfold dAll
  simp only [lstOf, Option.bind_some, blsOf_map]
theorem all_pure {g : DG} {te : DE} {σ : Sd} {gd : Gp → Prop} {G : Gp} (p : D → Bool) (hg : gd G) (xs : List D) (h : ∀ x ∈ xs, ∀ Q : DK, Q (.bl (p x)) G → g x σ G fun σ2 G2 => te σ2 G2 Q) {Q : DK} (q : Q (.bl (xs.all p)) G) : dLcGo g dYes te gd σ xs [] G fun ds G2 => dAll [.lst ds] G2 Q := by
  refine lc_pure (fun x => .bl (p x)) hg xs [] h _ ?_
  have e : [] ++ xs.map (fun x => D.bl (p x)) = (xs.map p).map D.bl := by simp
  rw [e, all_lst, List.all_map]
  exact q
/-! ### cuts and loops -/
theorem seq_cut {t u : DS} {E : DEnds} {σ : Sd} {G : Gp} (M : Sd → Gp → Prop) (h1 : ∀ σ' G', M σ' G' → u E σ' G') (h2 : ∀ N : Sd → Gp → Prop, (∀ σ' G', M σ' G' → N σ' G') → t { E with nx := N } σ G) : dSeq t u E σ G := h2 (u E) h1
theorem for_go {g : DG} {tb : DS} {gd : Gp → Prop} {E : DEnds} (I : List D → Sd → Gp → Prop)
    (turn : ∀ x xs σ G, I (x :: xs) σ G → gd G ∧ ∀ N : Sd → Gp → Prop, (∀ σ' G', I xs σ' G' → N σ' G') → g x σ G fun σ2 G2 => tb { E with nx := N, ct := N, bk := E.nx } σ2 G2)
    (fin : ∀ σ G, I [] σ G → gd G ∧ E.nx σ G) : ∀ (xs : List D) (σ : Sd) (G : Gp), I xs σ G → dForGo g tb gd E xs σ G
  | [], σ, G, h => fin σ G h
  | x :: xs, σ, G, h => ⟨(turn x xs σ G h).1, (turn x xs σ G h).2 _ fun σ' G' i => for_go I turn fin xs σ' G' i⟩
theorem wh_go {c : DT} {tb : DS} {E : DEnds} (I : Nat → Sd → Gp → Prop)
    (turn : ∀ n σ G, I n σ G → ∀ N : Sd → Gp → Prop, (∀ k σ' G', n = k + 1 → I k σ' G' → N σ' G') → c σ G fun b G1 => match b with | true => tb { E with nx := N, ct := N, bk := E.nx } σ G1 | false => E.nx σ G1) :
    ∀ (n : Nat) (σ : Sd) (G : Gp), I n σ G → dWhN c tb E (n + 1) σ G
  | 0, σ, G, h => turn 0 σ G h _ fun k _ _ e => by omega
  | n + 1, σ, G, h => turn (n + 1) σ G h _ fun k σ' G' e i => by
    have : k = n := by omega
    subst this
    exact wh_go I turn k σ' G' i
/-- a comprehension by an invariant -/
theorem lc_go {g : DG} {tt : DT} {te : DE} {gd : Gp → Prop} {σ : Sd} {Q : List D → Gp → Prop} (I : List D → List D → Gp → Prop)
    (turn : ∀ x xs acc G, I (x :: xs) acc G → gd G ∧ ∀ N : List D → Gp → Prop, (∀ acc' G', I xs acc' G' → N acc' G') → g x σ G fun σ2 G2 => tt σ2 G2 fun b G3 => match b with | true => te σ2 G3 fun y G4 => N (acc ++ [y]) G4 | false => N acc G3)
    (fin : ∀ acc G, I [] acc G → gd G ∧ Q acc G) : ∀ (xs acc : List D) (G : Gp), I xs acc G → dLcGo g tt te gd σ xs acc G Q
  | [], acc, G, h => fin acc G h
  | x :: xs, acc, G, h => ⟨(turn x xs acc G h).1, (turn x xs acc G h).2 _ fun acc' G' i => lc_go I turn fin xs acc' G' i⟩
theorem gup_self {G : Gp} {a : Addr} {o : GO} (h : G a = some o) : gup G a o = G := by
  funext b; unfold gup
  split
  · rename_i e; rw [e, h]
  · rfl
/-! ### texts by their signs' numbers -/
abbrev cds (z : Str) : List Nat := z.cps.toList
theorem cds_len (z : Str) : (cds z).length = z.length := Array.length_toList
theorem cds_inj {a b : Str} (h : cds a = cds b) : a = b := by
  cases a; cases b; simp only [cds] at h; congr 1; exact Array.toList_inj.mp h
theorem cds_app (a b : Str) : cds (a ++ b) = cds a ++ cds b := by show (a.cps ++ b.cps).toList = _; simp
theorem cds_cut (z : Str) (lo hi : Option Int) : cds (cutS z lo hi) = cutL (cds z) lo hi := by
  unfold cutS cutL
  rw [cds_len]
theorem cds_join (sep : Str) : ∀ zs : List Str, cds (Txt.join sep zs) = ((zs.map cds).intersperse (cds sep)).flatten := by
  intro zs
  rw [show Txt.join sep zs = Str.join sep zs from PySem.StrLaws.glued_eq_join sep zs]
  induction zs with
  | nil => rfl
  | cons x r ih =>
    cases r with
    | nil => simp [Str.join]
    | cons y r =>
      show cds (x ++ sep ++ Str.join sep (y :: r)) = _
      rw [cds_app, cds_app, ih]
      simp
theorem cds_join0 {sep : Str} (h : cds sep = []) (zs : List Str) : cds (Txt.join sep zs) = (zs.map cds).flatten := by
  rw [cds_join, h]
  generalize zs.map cds = l
  induction l with
  | nil => rfl
  | cons x r ih =>
    cases r with
    | nil => simp
    | cons y r => simp [List.intersperse] at ih ⊢; rw [ih]
theorem eqW_ref {f : Bool → Bool} {G : Gp} {p : Addr} {ds : List D} {d : D} {R : DK} (e : G p = some (.lst ds)) : dEqW f (.ref p) d G R ↔ dEqW f (.lst ds) d G R := by
  cases d <;> simp only [dEqW, gPy, e, toPy]
theorem atI_neg1 {α : Type} {xs : List α} {x : α} (h : xs.getLast? = some x) : atI xs (-1) = some x := by
  have hne : xs ≠ [] := fun z => by subst z; cases h
  have e := List.dropLast_concat_getLast hne
  rw [List.getLast?_eq_getLast hne] at h
  rw [← e]
  have := atI_last xs.dropLast (xs.getLast hne)
  rw [this]; exact h
theorem cut_init {α : Type} (xs : List α) : cutL xs none (some (-1)) = xs.dropLast := by
  unfold cutL
  have h1 : HT.sIx xs.length 0 none = 0 := rfl
  have h2 : HT.sIx xs.length xs.length (some (-1)) = xs.length - 1 := by
    have := HT.clip_eq (-1) xs.length xs.length
    rw [if_pos (by decide)] at this
    omega
  rw [h1, h2, List.drop_zero, Nat.sub_zero, List.dropLast_eq_take]
theorem nodup_sub {α : Type} : ∀ {l1 l2 : List α}, l1.Nodup → (∀ x ∈ l1, x ∈ l2) → l1.length ≤ l2.length
  | [], _, _, _ => Nat.zero_le _
  | a :: l1, l2, hn, hs => by
    obtain ⟨s, t, rfl⟩ := List.append_of_mem (hs a List.mem_cons_self)
    have hn2 := List.nodup_cons.mp hn
    have := nodup_sub (l1 := l1) (l2 := s ++ t) hn2.2 fun x hx => by
      have := hs x (List.mem_cons_of_mem _ hx)
      simp only [List.mem_append, List.mem_cons] at this ⊢
      rcases this with h | h | h
      · exact .inl h
      · subst h; exact absurd hx hn2.1
      · exact .inr h
    simp only [List.length_append, List.length_cons] at this ⊢
    omega
theorem in_strs {z : Str} {zs : List Str} : inF (.str z) (zs.map D.str) = decide (z ∈ zs) := by
  unfold inF
  rw [List.any_map, Bool.eq_iff_iff, List.any_eq_true, decide_eq_true_eq]
  constructor
  · rintro ⟨y, hy, e⟩
    have e' : (y == z) = true := e
    rw [beq_iff_eq] at e'
    rw [← e']; exact hy
  · intro h
    exact ⟨z, h, beq_self_eq_true z⟩
theorem flat_strs' (zs : List Str) : (zs.map D.str).all flatD = true := by
  rw [List.all_map, List.all_eq_true]; intro _ _; rfl
/-! ### operators at what is known -/
section
variable {mk : Bool} {i j : Int} {a b : Str} {x y : Bool} {as bs : List D} {d : D} {G : Gp} {R : DK}
theorem dAdd_ii : dAdd mk (.int i) (.int j) G R = R (.int (i + j)) G := rfl
theorem dAdd_ss : dAdd mk (.str a) (.str b) G R = (a.length + b.length ≤ sizeLine ∧ R (.str (a ++ b)) G) := rfl
theorem dAdd_tt : dAdd mk (.tup as) (.tup bs) G R = (as.length + bs.length ≤ sizeLine ∧ R (.tup (as ++ bs)) G) := rfl
theorem dAdd_ll : dAdd mk (.lst as) (.lst bs) G R = (as.length + bs.length ≤ sizeLine ∧ newL mk (as ++ bs) G R) := rfl
theorem dMinus_ii : dMinus (.int i) (.int j) G R = R (.int (i - j)) G := rfl
theorem dMul_ii : dMul (.int i) (.int j) G R = (IntMulOk i j ∧ R (.int (i * j)) G) := rfl
theorem dMod_ii : dMod (.int i) (.int j) G R = (0 < j ∧ R (.int (i % j)) G) := rfl
theorem dFdiv_ii : dFdiv (.int i) (.int j) G R = (CDivW i j ∧ R (.int (i / j)) G) := rfl
theorem dPow_ii : dPow (.int i) (.int j) G R = (CPowX i j ∧ R (.int (i ^ j.toNat)) G) := rfl
theorem dShl_ii : dShl (.int i) (.int j) G R = (CShl i j ∧ R (.int (i * 2 ^ j.toNat)) G) := rfl
theorem dNeg_i : dNeg (.int i) G R = R (.int (-i)) G := rfl
theorem dIadd_ii : dIadd (.int i) (.int j) G R = R (.int (i + j)) G := rfl
theorem dLt_ii : dLt (.int i) (.int j) G R = R (.bl (decide (i < j))) G := rfl
theorem dLe_ii : dLe (.int i) (.int j) G R = R (.bl (decide (i ≤ j))) G := rfl
theorem dGt_ii : dGt (.int i) (.int j) G R = R (.bl (decide (j < i))) G := rfl
theorem dGe_ii : dGe (.int i) (.int j) G R = R (.bl (decide (j ≤ i))) G := rfl
theorem dEq_ii : dEq (.int i) (.int j) G R = R (.bl (decide (i = j))) G := rfl
theorem dNe_ii : dNe (.int i) (.int j) G R = R (.bl (!decide (i = j))) G := rfl
theorem dEq_ss : dEq (.str a) (.str b) G R = R (.bl (decide (a = b))) G := rfl
theorem dNe_ss : dNe (.str a) (.str b) G R = R (.bl (!decide (a = b))) G := rfl
theorem dEq_bb : dEq (.bl x) (.bl y) G R = R (.bl (decide (x = y))) G := rfl
theorem dNe_bb : dNe (.bl x) (.bl y) G R = R (.bl (!decide (x = y))) G := rfl
theorem dIs_n : dIs d .non G R = R (.bl (isNon d)) G := rfl
theorem dIsNot_n : dIsNot d .non G R = R (.bl (!isNon d)) G := rfl
theorem dMax2_ii : dMax2 [.int i, .int j] G R = R (.int (if j > i then j else i)) G := rfl
theorem dMin2_ii : dMin2 [.int i, .int j] G R = R (.int (if j < i then j else i)) G := rfl
theorem dTuple_t : dTuple [.tup as] G R = R (.tup as) G := rfl
theorem dTuple_l : dTuple [.lst as] G R = R (.tup as) G := rfl
theorem dList_t : dList mk [.tup as] G R = newL mk as G R := rfl
theorem dList_l : dList mk [.lst as] G R = newL mk as G R := rfl
theorem dIx_t : dIx (.tup as) (.int i) G R = (match atI as i with | some d => R d G | none => False) := rfl
theorem dIx_l : dIx (.lst as) (.int i) G R = (match atI as i with | some d => R d G | none => False) := rfl
theorem dIx_s : dIx (.str a) (.int i) G R = (a.length ≤ sizeLine ∧ (match atI a.cps.toList i with | some c => R (.str ⟨#[c]⟩) G | none => False)) := rfl
theorem dSl_t {lo hi : Option Int} : dSl mk (.tup as) lo hi G R = R (.tup (cutL as lo hi)) G := rfl
theorem dSl_l {lo hi : Option Int} : dSl mk (.lst as) lo hi G R = newL mk (cutL as lo hi) G R := rfl
theorem dSl_s {lo hi : Option Int} : dSl mk (.str a) lo hi G R = (a.length ≤ sizeLine ∧ R (.str (cutS a lo hi)) G) := rfl
theorem newL_f : newL false as G R = R (.lst as) G := rfl
end
end DL

set_option Elab.async false
set_option linter.all false
set_option maxRecDepth 100000
set_option maxHeartbeats 4000000
set_option autoImplicit false
namespace DL
open PySem PySem.Spec PyProof.Rows L2
/-! ### a block within a block -/
theorem atI_zero {α : Type} {x : α} {xs : List α} : atI (x :: xs) 0 = some x := by
  have := atI_nat (xs := x :: xs) (j := 0) (v := x) rfl
  exact this
/-! ### names in another order -/
def permL {α : Type} (js : List Nat) (l : List α) : List α := js.filterMap fun i => l[i]?
theorem vals_perm {vs : List V} {us : List Value} (h : Vals vs us) : ∀ js : List Nat, Vals (permL js vs) (permL js us)
  | [] => .nil
  | i :: js => by
    unfold permL
    rw [List.filterMap_cons, List.filterMap_cons]
    have hl := h.length
    cases e : vs[i]? with
    | none =>
      have : us[i]? = none := by rw [List.getElem?_eq_none_iff] at e ⊢; omega
      rw [this]
      exact vals_perm h js
    | some v =>
      obtain ⟨u, hu, r⟩ := h.get e
      rw [hu]
      exact .cons r (vals_perm h js)
theorem rds_perm {K : PySem.W.Frag} {H : Hp} {N : Ns} {ds : List D} {vs : List V} (h : RDs K H N ds vs) : ∀ js : List Nat, RDs K H N (permL js ds) (permL js vs)
  | [] => RDs.nil
  | i :: js => by
    unfold permL
    rw [List.filterMap_cons, List.filterMap_cons]
    have hl := h.length
    cases e : ds[i]? with
    | none =>
      have : vs[i]? = none := by rw [List.getElem?_eq_none_iff] at e ⊢; omega
      rw [this]
      exact rds_perm h js
    | some v =>
      obtain ⟨u, hu, r⟩ := h.get e
      rw [hu]
      exact RDs.cons r (rds_perm h js)
/-! ### zip -/
def zipD : List D → List D → List D
  | x :: xs, y :: ys => .tup [x, y] :: zipD xs ys
  | _, _ => []
theorem zipD_get : ∀ (xs ys : List D) (i : Nat), (zipD xs ys)[i]? = match xs[i]?, ys[i]? with | some x, some y => some (.tup [x, y]) | _, _ => none
  | [], ys, i => by simp [zipD]
  | x :: xs, [], i => by
    simp only [zipD, List.getElem?_nil]
    split <;> simp_all
  | x :: xs, y :: ys, 0 => by simp [zipD]
  | x :: xs, y :: ys, i + 1 => by simp only [zipD, List.getElem?_cons_succ]; exact zipD_get xs ys i
theorem zipD_length : ∀ (xs ys : List D), (zipD xs ys).length = min xs.length ys.length
  | [], ys => by simp [zipD]
  | x :: xs, [] => by simp [zipD]
  | x :: xs, y :: ys => by simp only [zipD, List.length_cons, zipD_length xs ys]; omega
variable {X : Cx}
end DL

set_option Elab.async false
set_option linter.all false
set_option maxRecDepth 100000
set_option maxHeartbeats 4000000
set_option autoImplicit false
namespace DL
open PySem PySem.Spec PyProof.Rows L2
/-! ### a, *b = a tuple or a list -/
section
variable {prog : Program} {w : World} {A : Around} {E : Value → Shared → Prop} {s : Shared}
theorem star_tup {l : Addr} {items : Array Value} {n i : Nat} {Q : List Value → Shared → Prop} (hl : IsTup s.heap l items) (hh : A.handled = none) (hi : i < n) (hn : n ≤ items.size + 1) (hz : items.size ≤ sizeLine)
    (h : ∀ (h' : Heap) (tk : Nat), (∀ b o, s.heap.get? b = some o → h'.get? b = some o) →
      Q (items.toList.take i ++ [.ref h'.objs.size] ++ (items.toList.drop i).drop (items.size + 1 - n)) { s with heap := h'.push { cls := .type "list", data := .seq ((items.toList.drop i).take (items.size + 1 - n)).toArray }, toks := tk }) :
    wpAny (model prog w) A (unpackItems (.ref l) n (some i)) Q E s := by
  have hlt : l ≠ s.heap.objs.size := by obtain ⟨o, ho, _⟩ := hl; exact Nat.ne_of_lt (Heap.lt_size ho)
  unfold unpackItems
  refine wpAny_bind ?_
  unfold notIterableAtAll
  refine wpAny_bind (wpAny_specialOf hl.typeIs slot_tuple_iter.lookup ?_)
  refine wpAny_pure ?_
  simp only [Bool.false_eq_true, if_false]
  refine wpAny_bind (wpAny_holding (iter_tuple hl ?_))
  refine wpAny_bind (wpAny_holding (draw_tuple hlt i 0 _ _ ⟨_, Heap.get?_push_size _ rfl, rfl, rfl⟩ (hl.push _) (by omega) fun h₁ hit₁ hs₁ => ?_))
  have hl₁ : IsTup h₁ l items := (hl.push _).extBut hs₁.extBut hlt
  rw [Nat.zero_add] at hit₁
  have hit₁' := hit₁
  obtain ⟨oi, hoi, _⟩ := hit₁'
  have hl₁' := hl₁
  obtain ⟨ol, hol, _⟩ := hl₁'
  rw [List.drop_zero]
  have hfl : (items.toList.take i).length = i := by rw [List.length_take, Array.length_toList]; omega
  rw [if_neg (show ¬ ((items.toList.take i).length < i) by rw [hfl]; omega)]
  refine wpAny_bind (wpAny_holding (PySem.W.kun_collect (s := { s with heap := h₁ }) (T := "tuple_iterator") (.inr (.inr (.inr rfl))) (Walks.tuple (A := A.in1) hh s.heap.objs.size l hlt items) (fun j u st => st.1.typeIs) (k := i) (by omega) ⟨hit₁, hl₁⟩ (Heap.lt_size hoi) (Heap.lt_size hol) (fun h₂ tk hk => ?_) hz))
  have hrl : (items.toList.drop i).length = items.size - i := by rw [List.length_drop, Array.length_toList]
  have hmid : (items.toList.drop i).length - (n - 1 - i) = items.size + 1 - n := by rw [hrl]; omega
  show wpAny _ _ (if (items.toList.drop i).length < n - 1 - i then _ else _) _ _ _
  rw [if_neg (by rw [hrl]; omega)]
  show wpAny _ _ (newList ((items.toList.drop i).take ((items.toList.drop i).length - (n - 1 - i))) >>= fun d => pure (items.toList.take i ++ [d] ++ (items.toList.drop i).drop ((items.toList.drop i).length - (n - 1 - i)))) _ _ _
  rw [hmid]
  have he : ∀ b o, s.heap.get? b = some o → h₂.get? b = some o := fun b o e => hk b o (Nat.ne_of_lt (Heap.lt_size e)) (hs₁.extBut b o (Nat.ne_of_lt (Heap.lt_size e)) (Heap.get?_push_of_some _ e))
  exact wpAny_bind (wpAny_newList (s := { s with heap := h₂, toks := tk }) (wpAny_pure (h h₂ tk he)) (by rw [List.length_take, hrl]; omega))
theorem star_lst' {l : Addr} {items : Array Value} {n i : Nat} {Q : List Value → Shared → Prop} (hl : s.heap.IsList l items) (hh : A.handled = none) (hi : i < n) (hn : n ≤ items.size + 1) (hz : items.size ≤ sizeLine)
    (h : ∀ (h' : Heap) (tk : Nat), (∀ b o, s.heap.get? b = some o → h'.get? b = some o) →
      Q (items.toList.take i ++ [.ref h'.objs.size] ++ (items.toList.drop i).drop (items.size + 1 - n)) { s with heap := h'.push { cls := .type "list", data := .seq ((items.toList.drop i).take (items.size + 1 - n)).toArray }, toks := tk }) :
    wpAny (model prog w) A (unpackItems (.ref l) n (some i)) Q E s := by
  have hlt : l ≠ s.heap.objs.size := by obtain ⟨o, ho, _⟩ := hl; exact Nat.ne_of_lt (Heap.lt_size ho)
  unfold unpackItems
  refine wpAny_bind ?_
  unfold notIterableAtAll
  refine wpAny_bind (wpAny_specialOf hl.typeIs slot_list_iter.lookup ?_)
  refine wpAny_pure ?_
  simp only [Bool.false_eq_true, if_false]
  refine wpAny_bind (wpAny_holding (wpAny_pyIter_list hl ?_))
  refine wpAny_bind (wpAny_holding (PySem.W.kun_draw hlt i 0 _ _ ⟨_, Heap.get?_push_size _ rfl, rfl, rfl⟩ (hl.push _) (by omega) fun h₁ hit₁ hs₁ => ?_))
  have hl₁ : h₁.IsList l items := (hl.push _).extBut hs₁.extBut hlt
  rw [Nat.zero_add] at hit₁
  have hit₁' := hit₁
  obtain ⟨oi, hoi, _⟩ := hit₁'
  have hl₁' := hl₁
  obtain ⟨ol, hol, _⟩ := hl₁'
  rw [List.drop_zero]
  have hfl : (items.toList.take i).length = i := by rw [List.length_take, Array.length_toList]; omega
  rw [if_neg (show ¬ ((items.toList.take i).length < i) by rw [hfl]; omega)]
  refine wpAny_bind (wpAny_holding (PySem.W.kun_collect (s := { s with heap := h₁ }) (T := "list_iterator") (.inr (.inr (.inl rfl))) (Walks.list (A := A.in1) hh s.heap.objs.size l hlt items) (fun j u st => st.1.typeIs) (k := i) (by omega) ⟨hit₁, hl₁⟩ (Heap.lt_size hoi) (Heap.lt_size hol) (fun h₂ tk hk => ?_) hz))
  have hrl : (items.toList.drop i).length = items.size - i := by rw [List.length_drop, Array.length_toList]
  have hmid : (items.toList.drop i).length - (n - 1 - i) = items.size + 1 - n := by rw [hrl]; omega
  show wpAny _ _ (if (items.toList.drop i).length < n - 1 - i then _ else _) _ _ _
  rw [if_neg (by rw [hrl]; omega)]
  show wpAny _ _ (newList ((items.toList.drop i).take ((items.toList.drop i).length - (n - 1 - i))) >>= fun d => pure (items.toList.take i ++ [d] ++ (items.toList.drop i).drop ((items.toList.drop i).length - (n - 1 - i)))) _ _ _
  rw [hmid]
  have he : ∀ b o, s.heap.get? b = some o → h₂.get? b = some o := fun b o e => hk b o (Nat.ne_of_lt (Heap.lt_size e)) (hs₁.extBut b o (Nat.ne_of_lt (Heap.lt_size e)) (Heap.get?_push_of_some _ e))
  exact wpAny_bind (wpAny_newList (s := { s with heap := h₂, toks := tk }) (wpAny_pure (h h₂ tk he)) (by rw [List.length_take, hrl]; omega))
end
section
variable {X : Cx} {pos : Pos}
def gStar (K : PySem.W.Frag) (n i : Nat) (t : TGs) : TG := fun v σ H Q => ∃ a xs, v = .ref a ∧ (SqT K H a xs ∨ SqL K H a xs) ∧ n ≤ xs.length + 1 ∧
  ∀ p, H p = none → t (xs.take i ++ [.ref p] ++ (xs.drop i).drop (xs.length + 1 - n)) σ (upd H p (.lst ((xs.drop i).take (xs.length + 1 - n)))) Q
theorem vals_take {vs : List V} {us : List Value} (h : Vals vs us) : ∀ n : Nat, Vals (vs.take n) (us.take n) := by
  induction h with
  | nil => intro n; simp; exact .nil
  | cons r _ ih =>
    intro n
    cases n with
    | zero => exact .nil
    | succ n => exact .cons r (ih n)
theorem vals_drop {vs : List V} {us : List Value} (h : Vals vs us) : ∀ n : Nat, Vals (vs.drop n) (us.drop n) := by
  induction h with
  | nil => intro n; simp; exact .nil
  | cons r rr ih =>
    intro n
    cases n with
    | zero => exact .cons r rr
    | succ n => exact ih n
theorem vals_app {vs vs' : List V} {us us' : List Value} (h : Vals vs us) (h' : Vals vs' us') : Vals (vs ++ vs') (us ++ us') := by
  induction h with
  | nil => exact h'
  | cons r _ ih => exact .cons r ih
theorem pg_star {es : List Expr} {k : Nat} {t : TGs} {n i : Nat} (hc : X.calm = true) (h : PGs X es t) (hi : i < n)
    (hn : (assignEach es X.env).length = n := by rfl) (hst : (assignEach es X.env).findIdx? (·.1) = some i := by rfl) : PG X (.Tuple es k pos) (gStar X.K n i t) := by
  refine ⟨fun pins s σ H v u Q I r hw => ?_⟩
  obtain ⟨a, xs, e1, hq, hl, hw⟩ := hw
  subst e1
  cases r
  rw [assign_Tuple]
  refine wpAny_bind (wpAny_standAt ?_)
  unfold unpack
  rw [hn, hst]
  have fin : ∀ (its : List Value) (h' : Heap) (tk : Nat), Vals xs its → (∀ b o, s.heap.get? b = some o → h'.get? b = some o) → xs.length ≤ sizeLine →
      wpAny (model X.prog X.w) X.A (assignInOrder ((assignEach es X.env).map (·.2)) (its.take i ++ [.ref h'.objs.size] ++ (its.drop i).drop (its.length + 1 - n))) (fun _ s' => ∃ σ' H', Inv X pins σ' H' s' ∧ Q σ' H') X.xe
        { s with heap := h'.push { cls := .type "list", data := .seq ((its.drop i).take (its.length + 1 - n)).toArray }, toks := tk } := by
    intro its h' tk rv hk hz
    have I1 : Inv X pins σ H { s with heap := h', toks := tk } := I.kept hk
    have hln := rv.length
    have np : H h'.objs.size = none := I1.hok.fresh (Nat.le_refl _)
    have I2 : Inv X pins σ (upd H h'.objs.size (.lst ((xs.drop i).take (xs.length + 1 - n)))) { s with heap := h'.push { cls := .type "list", data := .seq ((its.drop i).take (its.length + 1 - n)).toArray }, toks := tk } :=
      I1.laid (t' := tk) (fun b u e => Heap.get?_push_of_some _ e) (Nat.le_refl _)
        (show ObjOk X.prog X.w _ _ _ (.lst ((xs.drop i).take (xs.length + 1 - n))) from ⟨by rw [List.length_take, List.length_drop]; omega, _, 0, by rw [← hln]; exact vals_take (vals_drop rv i) _, Heap.get?_push_size _ rfl⟩)
    refine h.run pins _ σ _ _ _ Q I2 ?_ (hw _ np)
    exact vals_app (vals_app (vals_take rv i) (.cons rfl .nil)) (by rw [← hln]; exact vals_drop (vals_drop rv i) _)
  rcases hq with hq | hq
  · obtain ⟨its, rv, ht, hz⟩ := I.tuple hq
    have hln := rv.length
    refine wpAny_bind (wpAny_holding (star_tup ht (I.ok.hd hc) hi (by rw [List.size_toArray]; omega) (by rw [List.size_toArray]; omega) fun h' tk hk => ?_))
    have := fin its h' tk rv hk hz
    simpa using this
  · obtain ⟨its, rv, ht, hz⟩ := I.list hq
    have hln := rv.length
    refine wpAny_bind (wpAny_holding (star_lst' ht.isList (I.ok.hd hc) hi (by rw [List.size_toArray]; omega) (by rw [List.size_toArray]; omega) fun h' tk hk => ?_))
    have := fin its h' tk rv hk hz
    simpa using this
end
section
variable {X : Cx} {pos : Pos}
theorem pgs_star {e : Expr} {es : List Expr} {t : TG} {u : TGs} {p : Pos} (h1 : PG X e t) (h2 : PGs X es u)
    (hs : (assignEach (.Starred e p :: es) X.env).map (·.2) = assign e X.env :: (assignEach es X.env).map (·.2) := by rfl) : PGs X (.Starred e p :: es) (gCons t u) := by
  refine ⟨fun pins s σ H vs us Q I r h => ?_⟩
  obtain ⟨v, vr, e1, h⟩ := h
  subst e1
  cases r with
  | cons r rr =>
    rw [hs]
    exact assignInOrder_cons (thn (h1.run pins s σ H _ _ _ I r h) fun _ s1 ⟨σ1, H1, I1, q1⟩ => h2.run pins s1 σ1 H1 _ _ Q I1 rr q1)
def starD (n i : Nat) (ds : List D) : List D := ds.take i ++ [.lst ((ds.drop i).take (ds.length + 1 - n))] ++ (ds.drop i).drop (ds.length + 1 - n)
def dStar (n i : Nat) (is : List Nat) : DG := fun d σ G R => match d with
  | .tup ds => n ≤ ds.length + 1 ∧ R (setAll σ is (starD n i ds)) G
  | .lst ds => n ≤ ds.length + 1 ∧ R (setAll σ is (starD n i ds)) G
  | _ => False
theorem rds_take {K : PySem.W.Frag} {H : Hp} {N : Ns} : ∀ {ds : List D} {vs : List V} (n : Nat), RDs K H N ds vs → RDs K H N (ds.take n) (vs.take n)
  | [], vs, n, h => by rw [h.of_nil]; simp; exact RDs.nil
  | d :: ds, vs, 0, h => RDs.nil
  | d :: ds, vs, n + 1, h => by
    obtain ⟨v, r, rfl, h1, h2⟩ := h.of_cons
    exact RDs.cons h1 (rds_take n h2)
theorem rds_drop {K : PySem.W.Frag} {H : Hp} {N : Ns} : ∀ {ds : List D} {vs : List V} (n : Nat), RDs K H N ds vs → RDs K H N (ds.drop n) (vs.drop n)
  | [], vs, n, h => by rw [h.of_nil]; simp; exact RDs.nil
  | d :: ds, vs, 0, h => h
  | d :: ds, vs, n + 1, h => by
    obtain ⟨v, r, rfl, h1, h2⟩ := h.of_cons
    exact rds_drop n h2
theorem rds_app {K : PySem.W.Frag} {H : Hp} {N : Ns} : ∀ {ds es : List D} {vs ws : List V}, RDs K H N ds vs → RDs K H N es ws → RDs K H N (ds ++ es) (vs ++ ws)
  | [], es, vs, ws, h, h' => by rw [h.of_nil]; exact h'
  | d :: ds, es, vs, ws, h, h' => by
    obtain ⟨v, r, rfl, h1, h2⟩ := h.of_cons
    exact RDs.cons h1 (rds_app h2 h')
theorem qg_star {es : List Expr} {k n i : Nat} {is : List Nat} (hc : X.calm = true) (h : PGs X es (gNames is)) (hi : i < n) (hl : is.length = n)
    (hn : (assignEach es X.env).length = n := by rfl) (hst : (assignEach es X.env).findIdx? (·.1) = some i := by rfl) : QG X (.Tuple es k pos) (dStar n i is) := pg_mono (pg_star hc h hi hn hst) fun v τ H Q h => by
  obtain ⟨d, σ, G, N, R, rd, rs, rg, h0, q⟩ := h
  have go : ∀ (p : Addr) (vs : List V) (ds : List D), RDs X.K H N ds vs → n ≤ ds.length + 1 → R (setAll σ is (starD n i ds)) G → H p = none →
      gNames is (vs.take i ++ [.ref p] ++ (vs.drop i).drop (vs.length + 1 - n)) τ (upd H p (.lst ((vs.drop i).take (vs.length + 1 - n)))) Q := by
    intro p vs ds r hln h0 np
    have hlv := r.length
    refine gNames_ok (by simp only [List.length_append, List.length_take, List.length_drop, List.length_cons, List.length_nil]; omega) ?_
    have s2 := Stp.newV (u := .lst ((vs.drop i).take (vs.length + 1 - n))) rg np
    refine q _ _ _ _ _ h0 s2 (RSt.setAll is (rs.le s2.kp) ?_)
    unfold starD
    rw [hlv]
    refine rds_app (rds_app (rds_take i (r.le s2.kp)) (RDs.cons ?_ RDs.nil)) (rds_drop _ (rds_drop i (r.le s2.kp)))
    exact RD.lst (.inl ⟨upd_same, fun z => z.1 rfl⟩) (rds_take _ (rds_drop i (r.le s2.kp)))
  unfold dStar at h0
  split at h0
  · obtain ⟨p, vs, rfl, sq, r⟩ := rd.of_tup
    exact ⟨p, vs, rfl, .inl sq, by rw [← r.length]; exact h0.1, fun p' np => go p' vs _ r h0.1 h0.2 np⟩
  · obtain ⟨p, vs, rfl, sq, r⟩ := rd.of_lst
    exact ⟨p, vs, rfl, .inr sq.sq, by rw [← r.length]; exact h0.1, fun p' np => go p' vs _ r h0.1 h0.2 np⟩
  · exact h0.elim
theorem starD_one (d : D) (ds : List D) : starD 2 1 (d :: ds) = [d, .lst ds] := by
  unfold starD
  simp
end
end DL

set_option Elab.async false
set_option linter.all false
set_option maxRecDepth 100000
set_option maxHeartbeats 4000000
set_option autoImplicit false
namespace DL
open PySem PySem.Spec PyProof.Rows L2
/-! ### the module's tuples and dicts -/
/-- what stands written: the value u is the data d, whatever else stands -/
def Kc (K : PySem.W.Frag) (d : D) (u : Value) : Prop := ∃ v, RelV v u ∧ ∀ H N, RD K H N d v
theorem kc_ref {K : PySem.W.Frag} {p : Addr} : Kc K (.ref p) (.ref p) := ⟨.ref p, rfl, fun H N => RD.ref p⟩
variable {X : Cx}
theorem qe_globD {x : Str} {p : Pos} {d : D} (hg : Gl X x) (hm : ∃ u, X.mg x = some u ∧ Kc X.K d u) (hdb : (x == ("__debug__" : Str)) = false := by decide) : QE X (.Name x p) (dC d) := by
  obtain ⟨u, hm, v, r, k⟩ := hm
  exact pe_mono (pe_glob hg hm r hdb) fun τ H Q h => by
    obtain ⟨σ, G, N, R, hs, hgg, ht, q⟩ := h
    exact q _ _ _ _ _ ht (Stp.refl hgg) (k H N)
/-- a dict of the module's, with text keys -/
def KD (K : PySem.W.Frag) (w : World) (d : Addr) (kvs : List (Str × D)) : Prop := ∃ es n, KDict K w d es n ∧ ∀ z, match kvs.lookup z with
  | some x => ∃ u, PySem.W.nsIn K d z = some (some u) ∧ Kc K x u
  | none => PySem.W.nsIn K d z = some none
def dInK (d : Addr) (kvs : List (Str × D)) (f : Bool → Bool) : DR2 := fun x y G R => match x with | .str z => y = .ref d ∧ R (.bl (f (kvs.lookup z).isSome)) G | _ => False
def dIxK (d : Addr) (kvs : List (Str × D)) : DR2 := fun x y G R => match y with | .str z => x = .ref d ∧ (match kvs.lookup z with | some v => R v G | none => False) | _ => False
theorem od_inK {d : Addr} {kvs : List (Str × D)} (h : KD X.K X.w d kvs) : OpD X (compareOp .In) (dInK d kvs id) := by
  obtain ⟨es, n, D, hz⟩ := h
  refine opr_mono (op_in_kd D) fun x y H Q h => ?_
  obtain ⟨c, e, G, N, R, r1, r2, rg, h, q⟩ := h
  unfold dInK at h
  split at h
  · rename_i z
    obtain ⟨rfl, h⟩ := h
    obtain rfl := r1.of_str
    obtain rfl := r2.of_ref
    have hz := hz z
    cases e : kvs.lookup z with
    | none => rw [e] at hz h; exact ⟨z, _, rfl, rfl, hz, q.at rg h (RD.bl _)⟩
    | some x => rw [e] at hz h; obtain ⟨u, hz, _⟩ := hz; exact ⟨z, _, rfl, rfl, hz, q.at rg h (RD.bl _)⟩
  · exact h.elim
/-- a written dict's look -/
theorem ns_find {K : PySem.W.Frag} {d : Addr} {oc : Value} {od : Option Addr} {es : List DictEntry} {n : Nat} {sl : Array (Option Value)} (l : K.lookup d = some ⟨oc, od, .dict es.toArray n, sl⟩) (z : Str) :
    PySem.W.nsIn K d z = (match es.find? (·.key.isStr z) with | some e => some (some e.val) | none => if es.any (·.refKey) then none else some none) := by
  unfold PySem.W.nsIn
  rw [l]
  rfl
/-- entries, told by keys, tokens and values -/
def entK (P : Params) : List (Str × Tok × Value) → List DictEntry
  | [] => []
  | (k, t, v) :: r => ⟨PyData.keyHash P k, .str k t, v⟩ :: entK P r
theorem entK_lit {P : Params} : ∀ l : List (Str × Tok × Value), PySem.W.KeysLit P (entK P l)
  | [] => trivial
  | (k, t, v) :: r => ⟨⟨k, t, rfl, rfl⟩, entK_lit r⟩
inductive KvOk (K : PySem.W.Frag) : List (Str × D) → List (Str × Tok × Value) → Prop where
  | nil : KvOk K [] []
  | cons {k : Str} {t : Tok} {v : Value} {x : D} {kvs : List (Str × D)} {l : List (Str × Tok × Value)} : Kc K x v → KvOk K kvs l → KvOk K ((k, x) :: kvs) ((k, t, v) :: l)
theorem entK_look {K : PySem.W.Frag} {P : Params} {z : Str} {kvs : List (Str × D)} {l : List (Str × Tok × Value)} (h : KvOk K kvs l) : match kvs.lookup z with
    | some x => ∃ e, (entK P l).find? (·.key.isStr z) = some e ∧ Kc K x e.val
    | none => (entK P l).find? (·.key.isStr z) = none ∧ (entK P l).any (·.refKey) = false := by
  induction h with
  | nil => exact ⟨rfl, rfl⟩
  | @cons k t v x kvs l hx _ ih =>
    rw [List.lookup_cons]
    unfold entK
    rw [List.find?_cons]
    have e1 : (Value.str k t).isStr z = (k == z) := rfl
    simp only [e1]
    by_cases e : z = k
    · subst e
      simp only [beq_self_eq_true]
      exact ⟨_, rfl, hx⟩
    · have e2 : (z == k) = false := by simpa using e
      have e3 : (k == z) = false := by simp; exact fun h => e h.symm
      simp only [e2, e3]
      cases e4 : kvs.lookup z with
      | none => rw [e4] at ih; simp only at ih ⊢; exact ⟨ih.1, by simp [DictEntry.refKey]; simpa [DictEntry.refKey] using ih.2⟩
      | some y => rw [e4] at ih; exact ih
theorem kd_mk {K : PySem.W.Frag} {w : World} {d : Addr} {n : Nat} {kvs : List (Str × D)} (l : List (Str × Tok × Value)) (hl : K.lookup d = some ⟨.type "dict", none, .dict (entK w.params l).toArray n, #[]⟩) (low : (d == sysModules) = false) (h : KvOk K kvs l) : KD K w d kvs := by
  refine ⟨_, n, ⟨hl, by simpa using entK_lit l, low⟩, fun z => ?_⟩
  have := entK_look (P := w.params) (z := z) h
  rw [ns_find hl]
  cases e : kvs.lookup z with
  | none =>
    rw [e] at this
    rw [this.1, this.2]
    rfl
  | some x =>
    rw [e] at this
    obtain ⟨e, h1, h2⟩ := this
    rw [h1]
    exact ⟨_, rfl, h2⟩
end DL

set_option Elab.async false
set_option linter.all false
set_option maxRecDepth 100000
set_option maxHeartbeats 4000000
set_option autoImplicit false
namespace DL
open PySem PySem.Spec PyProof.Rows L2
/-! ### zip of lists and tuples in any mix: the kind of a source is told by a Bool (true: a list) -/
def sqB (l : Bool) (K : PySem.W.Frag) (H : Hp) (a : Addr) (xs : List V) : Prop := match l with | true => SqL K H a xs | false => SqT K H a xs
def itB (l : Bool) (h : Heap) (it a : Addr) (i : Nat) : Prop := match l with | true => h.IsListIter it a i | false => h.IsTupleIter it a i
def srB (l : Bool) (h : Heap) (a : Addr) (its : Array Value) : Prop := match l with | true => h.IsList a its | false => h.IsTuple a its
def boB (l : Bool) (a : Addr) : Obj := match l with | true => { cls := .type "list_iterator", data := .fields #[.ref a, .int 0 0] } | false => { cls := .type "tuple_iterator", data := .fields #[.ref a, .int 0 0] }
theorem drB {prog : Program} {w : World} {A : Around} (hh : A.handled = none) (l : Bool) (it a : Addr) (hne : a ≠ it) (its : Array Value) : Draws prog w A it [it, a] its.size (fun i v => its[i]? = some v) (fun i h => itB l h it a i ∧ srB l h a its) := by
  cases l
  · exact Draws.tuple hh it a hne its
  · exact Draws.list hh it a hne its
theorem beB (l : Bool) (a : Addr) (its : Array Value) : Begins (.ref a) (boB l a) fun h => srB l h a its := by
  cases l
  · exact begins_tuple a its
  · exact begins_list a its
theorem itB_at {l : Bool} {h h' : Heap} {it a : Addr} {i : Nat} (x : itB l h it a i) (k : ∀ o, h.get? it = some o → h'.get? it = some o) : itB l h' it a i := by
  cases l
  · exact Heap.IsTupleIter.at x k
  · exact Heap.IsListIter.at x k
theorem itB_obj {l : Bool} {h : Heap} {it a : Addr} {i : Nat} (x : itB l h it a i) : ∃ o, h.get? it = some o ∧ ∀ v, o.data ≠ .cell v := by
  cases l
  · obtain ⟨o, e, _, d⟩ := x; exact ⟨o, e, fun v q => by rw [d] at q; cases q⟩
  · obtain ⟨o, e, _, d⟩ := x; exact ⟨o, e, fun v q => by rw [d] at q; cases q⟩
theorem itB_new {l : Bool} {h : Heap} {it a : Addr} (e : h.get? it = some (boB l a)) : itB l h it a 0 := by
  cases l
  · exact ⟨_, e, rfl, rfl⟩
  · exact ⟨_, e, rfl, rfl⟩
theorem srB_of {X : Cx} {pins : List (Addr × Obj)} {σ : L2.St} {H : Hp} {s : Shared} {l : Bool} {a : Addr} {xs : List V} (I : Inv X pins σ H s) (h : sqB l X.K H a xs) : ∃ its : List Value, Vals xs its ∧ srB l s.heap a its.toArray ∧ a < s.heap.objs.size := by
  cases l
  · obtain ⟨its, rv, p, _⟩ := I.tuple h
    obtain ⟨o, ho, _⟩ := id p
    exact ⟨its, rv, p, Heap.lt_size ho⟩
  · obtain ⟨its, rv, p, _⟩ := I.list h
    exact ⟨its, rv, p.isList, p.lt⟩
theorem sqB_inj {X : Cx} {pins : List (Addr × Obj)} {σ : L2.St} {H : Hp} {s : Shared} {l : Bool} {a : Addr} {xs ys : List V} (I : Inv X pins σ H s) (h : sqB l X.K H a xs) (h' : sqB l X.K H a ys) : xs = ys := by
  cases l
  · exact I.tuple_inj h h'
  · exact I.list_inj h h'
def ItM (K : PySem.W.Frag) (l1 l2 : Bool) (a b : Addr) : It :=
  ⟨fun i H => ∃ (xs ys : List V) (x y : V), sqB l1 K H a xs ∧ sqB l2 K H b ys ∧ xs[i]? = some x ∧ ys[i]? = some y,
    fun i H v H' => ∃ T x y, v = .ref T ∧ H T = none ∧ H' = upd H T (.tup [x, y]) ∧ (∀ xs, sqB l1 K H a xs → xs[i]? = some x) ∧ ∀ ys, sqB l2 K H b ys → ys[i]? = some y,
    fun i H => ∃ xs ys : List V, sqB l1 K H a xs ∧ sqB l2 K H b ys ∧ min xs.length ys.length = i⟩
theorem turn_zipM {P : Program} {w : World} {K : PySem.W.Frag} {elts : List Expr} {kk : Nat} {tpos : Pos} {l1 l2 : Bool} {a b z TI TO i1 i2 : Addr} (S : ZipSep2 z TI TO i1 i2 [i1, a] [i2, b]) (ne1 : a ≠ i1) (ne2 : b ≠ i2) :
    Turn P w K (.Tuple elts kk tpos) (ItM K l1 l2 a b) [z, TI, TO, i1, i2] z (fun i h => IsZip h z TI TO .none ∧ IsTupOf2 h TI (.ref i1) (.ref i2) ∧ (∃ x y, IsTupOf2 h TO x y) ∧ itB l1 h i1 a i ∧ itB l2 h i2 b i) where
  mem := by simp
  obj := fun i h st c hc => by
    obtain ⟨hz, hTI, ⟨x, y, hTO⟩, s1, s2⟩ := st
    have e' : c = z ∨ c = TI ∨ c = TO ∨ c = i1 ∨ c = i2 := by simpa using hc
    rcases e' with rfl | rfl | rfl | rfl | rfl
    · exact ⟨_, hz, fun v q => nomatch q⟩
    · exact ⟨_, hTI, fun v q => nomatch q⟩
    · exact ⟨_, hTO, fun v q => nomatch q⟩
    · exact itB_obj s1
    · exact itB_obj s2
  keep := fun i h h' st k => by
    obtain ⟨hz, hTI, ⟨x, y, hTO⟩, s1, s2⟩ := st
    exact ⟨k _ (by simp) _ hz, k _ (by simp) _ hTI, ⟨x, y, k _ (by simp) _ hTO⟩, itB_at s1 fun o q => k _ (by simp) o q, itB_at s2 fun o q => k _ (by simp) o q⟩
  item := by
    intro X hP hw hK hc i pins s σ H E I hf st hg
    subst hP hw hK
    obtain ⟨xs, ys, x, y, hqx, hqy, hx, hy⟩ := hg
    obtain ⟨its, rv, p, la⟩ := srB_of I hqx
    obtain ⟨its2, rv2, p2, lb⟩ := srB_of I hqy
    obtain ⟨hz, hTI, hTO, h1, h2⟩ := st
    have h1' := itB_obj h1
    have h2' := itB_obj h2
    have n1 := rv.length
    have n2 := rv2.length
    have hi1 : i < xs.length := (List.getElem?_eq_some_iff.mp hx).1
    have hi2 : i < ys.length := (List.getElem?_eq_some_iff.mp hy).1
    have hh : X.A.in1.handled = none := I.ok.hd hc
    have W := GoesN.zip2 (prog := X.prog) (w := X.w) (A := X.A) (elts := elts) (x1 := kk) (pos := tpos) S (drB hh l1 i1 a ne1 its.toArray) (drB hh l2 i2 b ne2 its2.toArray)
    refine W.goes i s _ E (by simp only [List.size_toArray]; omega) ⟨hz, hTI, hTO, ⟨h1, p⟩, h2, p2⟩ fun v h' tk hY hSt hk htk => ?_
    obtain ⟨T, u, u2, rfl, hT, hu, hu2, hTT⟩ := hY
    obtain ⟨hz', hTI', hTO', ⟨h1'', _⟩, h2'', _⟩ := hSt
    obtain ⟨u0, hu0, ru⟩ := rv.get hx
    obtain ⟨u20, hu20, ru2⟩ := rv2.get hy
    have eu : u0 = u := by
      have : its[i]? = some u := by simpa using hu
      rw [hu0] at this; exact Option.some.inj this
    have eu2 : u20 = u2 := by
      have : its2[i]? = some u2 := by simpa using hu2
      rw [hu20] at this; exact Option.some.inj this
    subst eu eu2
    have lt5 : ∀ c ∈ [z, TI, TO, i1, i2], c < s.heap.objs.size := by
      intro c hcm
      obtain ⟨ta, tb, hTO⟩ := hTO
      have e' : c = z ∨ c = TI ∨ c = TO ∨ c = i1 ∨ c = i2 := by simpa using hcm
      rcases e' with rfl | rfl | rfl | rfl | rfl
      · exact Heap.lt_size hz
      · exact Heap.lt_size hTI
      · exact Heap.lt_size hTO
      · obtain ⟨_, e, _⟩ := h1'; exact Heap.lt_size e
      · obtain ⟨_, e, _⟩ := h2'; exact Heap.lt_size e
    have new : ObjOk X.prog X.w (upd H T (.tup [x, y])) h' T (.tup [x, y]) := ⟨by show 2 ≤ sizeLine; decide, [u0, u20], .cons ru (.cons ru2 .nil), hTT⟩
    have I1 : Inv X pins σ (upd H T (.tup [x, y])) { s with heap := h', toks := tk } :=
      I.turnedNew (t' := tk) (ch := [z, TI, TO, i1, i2]) (fun c o hb q => hk c o (fun m => hb (by simp only [List.mem_cons, List.not_mem_nil, or_false] at m ⊢; rcases m with m | m | m | m <;> simp [m])) q) hf hT new
    refine ⟨.ref T, _, I1, rfl, ⟨T, x, y, rfl, I.hok.fresh hT, rfl, fun l hl => by rw [sqB_inj I hl hqx]; exact hx, fun l hl => by rw [sqB_inj I hl hqy]; exact hy⟩, ⟨hz', hTI', hTO', h1'', h2''⟩, fun c hcm => ?_⟩
    rw [upd_ne (Nat.ne_of_lt (Nat.lt_of_lt_of_le (lt5 c hcm) hT))]
    exact (hf c hcm).1
  done := by
    intro X hP hw hK hc i pins s σ H E I hf st hg
    subst hP hw hK
    obtain ⟨xs, ys, hqx, hqy, hend⟩ := hg
    obtain ⟨its, rv, p, la⟩ := srB_of I hqx
    obtain ⟨its2, rv2, p2, lb⟩ := srB_of I hqy
    obtain ⟨hz, hTI, hTO, h1, h2⟩ := st
    have n1 := rv.length
    have n2 := rv2.length
    have hh : X.A.in1.handled = none := I.ok.hd hc
    have W := GoesN.zip2 (prog := X.prog) (w := X.w) (A := X.A) (elts := elts) (x1 := kk) (pos := tpos) S (drB hh l1 i1 a ne1 its.toArray) (drB hh l2 i2 b ne2 its2.toArray)
    have en : min its.toArray.size its2.toArray.size = i := by simp only [List.size_toArray]; omega
    rw [← en] at h1 h2
    exact W.stops s _ E ⟨hz, hTI, hTO, ⟨h1, p⟩, h2, p2⟩ fun h' tk hk htk => I.turnedL (t' := tk) (ch := [z, TI, TO, i1, i2]) (fun c o hb q => hk c o (fun m => hb (by simp only [List.mem_cons, List.not_mem_nil, or_false] at m ⊢; rcases m with m | m | m | m <;> simp [m])) q) hf
  self := fun A i s Q E st h => wpAny_pyIter_zip st.1 h
def iZipM (K : PySem.W.Frag) (ta : TA) : TI := fun σ H R => ta σ H fun vs H1 => ∃ l1 l2 a b xs ys, vs = [.ref a, .ref b] ∧ sqB l1 K H1 a xs ∧ sqB l2 K H1 b ys ∧ R (ItM K l1 l2 a b) H1
theorem pi_zipM {X : Cx} {e e2 : Expr} {ta : TA} {p pos tpos : Pos} {elts : List Expr} {kk : Nat} (hg : Gl X "zip") (hm : X.mg "zip" = none) (ha : PA X [e, e2] ta)
    (hs : starEach [e, e2] X.env = (false, eval e X.env) :: starEach [e2] X.env := by rfl) (hpl : (backTo pos (starEach [e2] X.env)).any (·.1) = false := by rfl) :
    PI X (.Tuple elts kk tpos) (.Call (.Name "zip" p) [e, e2] [] pos) (iZipM X.K ta) := by
  refine ⟨fun pins s σ H R I h => ?_⟩
  refine Call_ (ld_blt I hg hm PyProof.Rows.boot_zip (PyProof.Rows.callWith_type1 (thn (ha.run pos pins s σ H _ I h) fun us s1 ⟨vs, H1, I1, r1, q1⟩ => ?_) hs hpl))
  obtain ⟨l1, l2, a, b, xs, ys, ex, hqx, hqy, q⟩ := q1
  subst ex
  cases r1 with
  | cons r rr =>
    cases rr with
    | cons r' rr =>
      cases rr
      cases r
      cases r'
      obtain ⟨its, rv, p1, la⟩ := srB_of I1 hqx
      obtain ⟨its2, rv2, p2, lb⟩ := srB_of I1 hqy
      refine zip_begins2 (beB l1 a its.toArray) (beB l2 b its2.toArray) p1 p2 fun h' hz hTI hTO h1 h2 hsz hk => wpAny_pyIter_zip hz ?_
      have I2 : Inv X pins σ H1 { s1 with heap := h' } := I1.kept (t' := s1.toks) hk
      have S : ZipSep2 (s1.heap.objs.size + 4) (s1.heap.objs.size + 2) (s1.heap.objs.size + 3) s1.heap.objs.size (s1.heap.objs.size + 1) [s1.heap.objs.size, a] [s1.heap.objs.size + 1, b] :=
        zip_sep2 (N := s1.heap.objs.size) (fp1 := [a]) (fp2 := [b]) (fun c hc => by rw [List.mem_singleton] at hc; subst hc; exact la) (fun c hc => by rw [List.mem_singleton] at hc; subst hc; exact lb)
      refine ⟨s1.heap.objs.size + 4, [s1.heap.objs.size + 4, s1.heap.objs.size + 2, s1.heap.objs.size + 3, s1.heap.objs.size, s1.heap.objs.size + 1], _, _, H1, rfl, I2,
        turn_zipM (l1 := l1) (l2 := l2) S (Nat.ne_of_lt la) (Nat.ne_of_lt (Nat.lt_succ_of_lt lb)), ⟨hz, hTI, ⟨_, _, hTO⟩, itB_new h1, itB_new h2⟩, fun c hcm => ?_, q⟩
      have hle : s1.heap.objs.size ≤ c := by
        have e' : c = s1.heap.objs.size + 4 ∨ c = s1.heap.objs.size + 2 ∨ c = s1.heap.objs.size + 3 ∨ c = s1.heap.objs.size ∨ c = s1.heap.objs.size + 1 := by simpa using hcm
        rcases e' with z | z | z | z | z <;> rw [z] <;> first | exact Nat.le_refl _ | exact Nat.le_add_right _ _
      exact I1.fpOk hle (I1.hok.fresh hle)
theorem yl_zipM {K : PySem.W.Frag} {H0 : Hp} {N0 : Ns} {G0 : Gp} {l1 l2 : Bool} {a b : Addr} {ds es : List D} {gd : Gp → Prop} (h : ∀ H N G, Stp K H0 N0 G0 H N G → gd G → ∃ vs ws, sqB l1 K H a vs ∧ RDs K H N ds vs ∧ sqB l2 K H b ws ∧ RDs K H N es ws) : Yl K (ItM K l1 l2 a b) H0 N0 G0 (zipD ds es) gd := by
  refine ⟨fun i H N G d s g e => ?_, fun i H N G s g e => ?_⟩
  · obtain ⟨vs, ws, sq, r, sq', r'⟩ := h H N G s g
    rw [zipD_get] at e
    cases ed : ds[i]? with
    | none => rw [ed] at e; cases e
    | some d0 =>
      cases ee : es[i]? with
      | none => rw [ed, ee] at e; cases e
      | some e0 =>
        rw [ed, ee] at e
        cases e
        obtain ⟨v, hv, rv⟩ := r.get ed
        obtain ⟨u, hu, ru⟩ := r'.get ee
        refine ⟨⟨vs, ws, v, u, sq, sq', hv, hu⟩, fun x H' y => ?_⟩
        obtain ⟨T, x1, y1, rfl, nT, rfl, y, y'⟩ := y
        have e2 := y vs sq
        rw [hv] at e2; cases e2
        have e3 := y' ws sq'
        rw [hu] at e3; cases e3
        have s2 := Stp.new0 (u := .tup [v, u]) s.rel nT
        exact ⟨s2, RD.tup (.inl (.inl upd_same)) (RDs.cons (rv.le s2.kp) (RDs.cons (ru.le s2.kp) RDs.nil))⟩
  · obtain ⟨vs, ws, sq, r, sq', r'⟩ := h H N G s g
    rw [zipD_length] at e
    exact ⟨vs, ws, sq, sq', by rw [← r.length, ← r'.length]; exact e⟩
/-- a source, told by data -/
def srcD (G : Gp) : D → Option (Bool × List D × (Gp → Prop))
  | .tup ds => some (false, ds, fun _ => True)
  | .nt zs => some (false, zs.map .str, fun _ => True)
  | .lst ds => some (true, ds, fun _ => True)
  | .ref a => match G a with | some (.lst ds) => some (true, ds, fun G => G a = some (.lst ds)) | _ => none
  | _ => none
theorem srcD_ok {K : PySem.W.Frag} {H0 : Hp} {N0 : Ns} {G0 : Gp} {d : D} {v : V} {l : Bool} {ds : List D} {gd : Gp → Prop} (rg : RelG K H0 N0 G0) (rd : RD K H0 N0 d v) (h : srcD G0 d = some (l, ds, gd)) :
    ∃ a, v = .ref a ∧ (∃ vs, sqB l K H0 a vs) ∧ ∀ H N G, Stp K H0 N0 G0 H N G → gd G → ∃ vs, sqB l K H a vs ∧ RDs K H N ds vs := by
  unfold srcD at h
  split at h
  · cases h
    obtain ⟨p, vs, rfl, sq, r⟩ := rd.of_tup
    exact ⟨p, rfl, ⟨vs, sq⟩, fun H N G s _ => ⟨vs, SqT.le s.kp.kle sq, r.le s.kp⟩⟩
  · cases h
    obtain ⟨p, vs, rfl, sq, r⟩ := rd.nt_tup.of_tup
    exact ⟨p, rfl, ⟨vs, sq⟩, fun H N G s _ => ⟨vs, SqT.le s.kp.kle sq, r.le s.kp⟩⟩
  · cases h
    obtain ⟨p, vs, rfl, sq, r⟩ := rd.of_lst
    exact ⟨p, rfl, ⟨vs, sq.sq⟩, fun H N G s _ => ⟨vs, (sq.le s.kp).sq, r.le s.kp⟩⟩
  · split at h
    · rename_i e
      cases h
      obtain rfl := rd.of_ref
      obtain ⟨_, vs, hv, r⟩ := rg _ _ e
      refine ⟨_, rfl, ⟨vs, SqL.of hv⟩, fun H N G s g => ?_⟩
      obtain ⟨_, vs, hv, r⟩ := s.rel _ _ g
      exact ⟨vs, SqL.of hv, r⟩
    · cases h
  · cases h
def dZipM (ta : DA) : DI := fun σ G R => ta σ G fun ds G1 => match ds with
  | [x, y] => (match srcD G1 x, srcD G1 y with | some (_, xs, g1), some (_, ys, g2) => R (zipD xs ys) (fun G => g1 G ∧ g2 G) G1 | _, _ => False)
  | _ => False
theorem qi_zipM {X : Cx} {e e2 : Expr} {ta : DA} {p pos tpos : Pos} {elts : List Expr} {kk : Nat} (hg : Gl X "zip") (hm : X.mg "zip" = none) (ha : QA X [e, e2] ta)
    (hs : starEach [e, e2] X.env = (false, eval e X.env) :: starEach [e2] X.env := by rfl) (hpl : (backTo pos (starEach [e2] X.env)).any (·.1) = false := by rfl) :
    QI X (.Tuple elts kk tpos) (.Call (.Name "zip" p) [e, e2] [] pos) (dZipM ta) := pi_mono (pi_zipM hg hm ha hs hpl) fun τ H Q h => by
  obtain ⟨σ, G, N, R, hs, hg, ht, q⟩ := h
  refine ⟨σ, G, N, _, hs, hg, ht, fun ds G1 N1 vs H1 h1 s1 r1 => ?_⟩
  split at h1
  · rename_i x y
    split at h1
    · rename_i l1 xs g1 l2 ys g2 e1 e2
      obtain ⟨v, r, rfl, r2, r3⟩ := r1.of_cons
      obtain ⟨v', r', rfl, r4, r5⟩ := r3.of_cons
      rw [r5.of_nil]
      obtain ⟨a, rfl, ⟨vs, sq⟩, k1⟩ := srcD_ok s1.rel r2 e1
      obtain ⟨b, rfl, ⟨ws, sq'⟩, k2⟩ := srcD_ok s1.rel r4 e2
      refine ⟨l1, l2, a, b, vs, ws, rfl, sq, sq', q _ _ _ _ _ _ h1 s1 (yl_zipM fun H N G s g => ?_)⟩
      obtain ⟨vs, h1, h2⟩ := k1 H N G s g.1
      obtain ⟨ws, h3, h4⟩ := k2 H N G s g.2
      exact ⟨vs, ws, h1, h2, h3, h4⟩
    · exact h1.elim
  · exact h1.elim
end DL

set_option Elab.async false
set_option linter.all false
set_option maxRecDepth 100000
set_option maxHeartbeats 4000000
set_option autoImplicit false
namespace DL
open PySem PySem.Spec PyProof.Rows L2
/-! ### == of a dict and a text -/
section
variable {A : Around} {s : Shared}
end
variable {X : Cx}
end DL

set_option Elab.async false
set_option linter.all false
set_option maxRecDepth 100000
set_option maxHeartbeats 4000000
set_option autoImplicit false
namespace DL
open PySem PySem.Spec PyProof.Rows L2
/-! ### steps in applied form -/
/-- what goes on, kept shut -/
def Kont (P : Sd → Gp → Prop) : Sd → Gp → Prop := P
theorem kont_go {P : Sd → Gp → Prop} {σ : Sd} {G : Gp} (h : P σ G) : Kont P σ G := h
def br (b : Bool) (A B : Prop) : Prop := match b with | true => A | false => B
def isB (x : D) (k : Bool → Prop) : Prop := match x with | .bl b => k b | _ => False
def isI (x : D) (k : Int → Prop) : Prop := match x with | .int b => k b | _ => False
def isN (x : Option D) (k : D → Prop) : Prop := match x with | some b => k b | none => False
def slo (x : Option (Option D)) (k : D → Prop) : Prop := match x with | some (some d) => k d | _ => False
section
variable {A B : Prop} {b c : Bool} {k : Bool → Prop} {ki : Int → Prop} {kd : D → Prop} {i : Int} {d : D}
theorem br_t : br true A B = A := rfl
theorem br_f : br false A B = B := rfl
theorem br_not : br (!b) A B = br b B A := by cases b <;> rfl
theorem br_dec {P : Prop} [Decidable P] : br (decide P) A B = if P then A else B := by
  by_cases h : P
  · rw [decide_eq_true h, if_pos h]; rfl
  · rw [decide_eq_false h, if_neg h]; rfl
theorem br_and : br (b && c) A B = br b (br c A B) B := by cases b <;> rfl
theorem br_or : br (b || c) A B = br b A (br c A B) := by cases b <;> rfl
theorem isB_bl : isB (.bl b) k = k b := rfl
theorem isI_int : isI (.int i) ki = ki i := rfl
theorem isN_some : isN (some d) kd = kd d := rfl
theorem slo_some : slo (some (some d)) kd = kd d := rfl
end
section
variable {σ : Sd} {G : Gp} {R : DK} {Rb : Bool → Gp → Prop} {Ra : List D → Gp → Prop} {Rg : Sd → Gp → Prop} {E : DEnds} {i : Nat} {d : D} {ta tb tc : DE} {c c' : DT} {tr : DA} {r r' : DR2} {r1 : DR1} {s t u : DS} {g : DG} {ti : DI} {mk : Bool} {rn : DRn} {sp : DSp}
theorem x_var : dVar i σ G R = slo σ[i]? fun d => R d G := rfl
theorem x_c : dC d σ G R = R d G := rfl
theorem x_op : dOp r ta tb σ G R = ta σ G fun x G1 => tb σ G1 fun y G2 => r x y G2 R := rfl
theorem x_un : dUn r1 ta σ G R = ta σ G fun x G1 => r1 x G1 R := rfl
theorem x_b : dB ta σ G Rb = ta σ G fun x G1 => isB x fun b => Rb b G1 := rfl
theorem x_and : dAnd c c' σ G Rb = c σ G fun b G1 => br b (c' σ G1 Rb) (Rb false G1) := rfl
theorem x_or : dOr c c' σ G Rb = c σ G fun b G1 => br b (Rb true G1) (c' σ G1 Rb) := rfl
theorem x_not : dNot c σ G Rb = c σ G fun b G1 => Rb (!b) G1 := rfl
def isBB (x : D) (A B : Prop) : Prop := match x with | .bl true => A | .bl false => B | _ => False
theorem isBB_bl {b : Bool} {A B : Prop} : isBB (.bl b) A B = br b A B := by cases b <;> rfl
theorem x_chain : dChain r r' ta tb tc σ G R = ta σ G fun x G1 => tb σ G1 fun y G2 => r x y G2 fun z G3 => isBB z (tc σ G3 fun w G4 => r' y w G4 R) (R (.bl false) G3) := rfl
theorem x_andV : dAndV ta tb σ G R = ta σ G fun x G1 => isBB x (tb σ G1 R) (R (.bl false) G1) := rfl
theorem x_orV : dOrV ta tb σ G R = ta σ G fun x G1 => isBB x (R (.bl true) G1) (tb σ G1 R) := rfl
theorem x_notV : dNotV ta σ G R = ta σ G fun x G1 => isB x fun b => R (.bl (!b)) G1 := rfl
theorem x_if : dIf c ta tb σ G R = c σ G fun b G1 => br b (ta σ G1 R) (tb σ G1 R) := rfl
theorem x_nil : dNil σ G Ra = Ra [] G := rfl
theorem x_cons : dCons ta tr σ G Ra = ta σ G fun x G1 => tr σ G1 fun xs G2 => Ra (x :: xs) G2 := rfl
theorem x_tup : dTup tr σ G R = tr σ G fun ds G1 => ds.length ≤ sizeLine ∧ R (.tup ds) G1 := rfl
theorem x_lst0 : dLst false tr σ G R = tr σ G fun ds G1 => ds.length ≤ sizeLine ∧ R (.lst ds) G1 := rfl
theorem x_lst1 : dLst true tr σ G R = tr σ G fun ds G1 => ds.length ≤ sizeLine ∧ ∀ p, G1 p = none → R (.ref p) (gup G1 p (.lst ds)) := rfl
theorem x_callB : dCallB rn tr σ G R = tr σ G fun ds G1 => rn ds G1 R := rfl
theorem x_call : dCall sp tr σ G R = tr σ G fun ds G1 => sp ds G1 R := rfl
theorem x_callK {f : List D → List D} {n : Nat} : dCallK sp f n tr σ G R = tr σ G fun ds G1 => ds.length = n ∧ sp (f ds) G1 R := rfl
theorem x_next : dNext E σ G = E.nx σ G := rfl
theorem x_seq : dSeq t u E σ G = t { E with nx := Kont (u E) } σ G := rfl
theorem x_break : dBreak E σ G = E.bk σ G := rfl
theorem x_cont : dCont E σ G = E.ct σ G := rfl
theorem x_drop : dDrop ta E σ G = ta σ G fun _ G1 => E.nx σ G1 := rfl
/-- what is told, with what is still known: Wk -/
def Rt (R : DK) (d : D) (G : Gp) : Prop := ∃ d' G', Wk G d d' G' ∧ R d' G'
theorem rt_same {R : DK} {d : D} {G : Gp} (h : R d G) : Rt R d G := ret_same h
theorem x_ret : dRet ta E σ G = ta σ G fun d G1 => Rt E.rt d G1 := rfl
theorem x_ifS : dIfS c t u E σ G = c σ G fun b G1 => br b (t E σ G1) (u E σ G1) := rfl
theorem x_asg : dAsg ta g E σ G = ta σ G fun x G1 => g x σ G1 E.nx := rfl
theorem x_name : dName i d σ G Rg = Rg (σ.set i (some d)) G := rfl
theorem x_names {is : List Nat} {ds : List D} : dNames is (.tup ds) σ G Rg = (ds.length = is.length ∧ Rg (setAll σ is ds) G) := rfl
theorem x_sub {rs : DSet} : dSub ta tb rs d σ G Rg = ta σ G fun o G1 => tb σ G1 fun i G2 => rs o i d G2 fun G3 => Rg σ G3 := rfl
theorem x_aug : dAug i ta r E σ G = slo σ[i]? fun x => ta σ G fun y G1 => r x y G1 fun z G2 => E.nx (σ.set i (some z)) G2 := rfl
theorem x_augS {rs : DSet} : dAugS ta tb tc r r' rs E σ G = ta σ G fun o G1 => tb σ G1 fun i G2 => r o i G2 fun x G3 => tc σ G3 fun y G4 => r' x y G4 fun z G5 => rs o i z G5 fun G6 => E.nx σ G6 := rfl
theorem x_for : dFor ti g t E σ G = ti σ G fun xs gd G1 => dForGo g t gd E xs σ G1 := rfl
theorem x_lc0 {ws : List Nat} : dLc false ti g c tb ws σ G R = ti σ G fun xs gd G1 => xs.length ≤ sizeLine ∧ dLcGo g c tb gd (wipeD σ ws) xs [] G1 fun ds G2 => R (.lst ds) G2 := rfl
theorem x_lc1 {ws : List Nat} : dLc true ti g c tb ws σ G R = ti σ G fun xs gd G1 => xs.length ≤ sizeLine ∧ dLcGo g c tb gd (wipeD σ ws) xs [] G1 fun ds G2 => ∀ p, G2 p = none → R (.ref p) (gup G2 p (.lst ds)) := rfl
theorem x_yes : dYes σ G Rb = Rb true G := rfl
theorem x_noPart {Ro : Option Int → Gp → Prop} : dNoPart σ G Ro = Ro none G := rfl
theorem x_part {Ro : Option Int → Gp → Prop} : dPart ta σ G Ro = ta σ G fun x G1 => isI x fun i => Ro (some i) G1 := rfl
theorem x_slice {tl th : DO} : dSlice mk ta tl th σ G R = ta σ G fun x G1 => tl σ G1 fun l G2 => th σ G2 fun u G3 => dSl mk x l u G3 R := rfl
abbrev DIk := List D → (Gp → Prop) → Gp → Prop
/-- what is gone through: lists that nobody changes, texts, known lists -/
def itD (x : D) (G1 : Gp) (R : DIk) : Prop := match x with
  | .tup ds => R ds (fun _ => True) G1
  | .nt zs => R (zs.map .str) (fun _ => True) G1
  | .lst ds => R ds (fun _ => True) G1
  | .str z => R (signsD z) (fun _ => True) G1
  | .ref a => match G1 a with | some (.lst ds) => R ds (fun G => G a = some (.lst ds)) G1 | _ => False
  | _ => False
variable {Ri : DIk}
theorem x_iter : dIter ta σ G Ri = ta σ G fun x G1 => itD x G1 Ri := rfl
theorem it_t {ds : List D} : itD (.tup ds) G Ri = Ri ds (fun _ => True) G := rfl
theorem it_n {zs : List Str} : itD (.nt zs) G Ri = Ri (zs.map .str) (fun _ => True) G := rfl
theorem it_l {ds : List D} : itD (.lst ds) G Ri = Ri ds (fun _ => True) G := rfl
theorem it_s {z : Str} : itD (.str z) G Ri = Ri (signsD z) (fun _ => True) G := rfl
/-- a list that is known, by what it holds -/
def atL (o : Option GO) (k : List D → Prop) : Prop := match o with | some (.lst ds) => k ds | _ => False
theorem atL_lst {ds : List D} {k : List D → Prop} : atL (some (.lst ds)) k = k ds := rfl
theorem it_r {a : Addr} : itD (.ref a) G Ri = atL (G a) fun ds => Ri ds (fun G => G a = some (.lst ds)) G := rfl
theorem x_rng1 : dRng1 tr σ G Ri = tr σ G fun ds G1 => match ds with | [.int j] => -(2 ^ 62) ≤ j ∧ j < 2 ^ 62 ∧ Ri (rng 0 j.toNat) (fun _ => True) G1 | _ => False := rfl
theorem x_enum : dEnum tr σ G Ri = tr σ G fun ds G1 => match ds with
  | [.lst xs] => Ri (enumD 0 xs) (fun _ => True) G1
  | [.ref a] => (match G1 a with | some (.lst xs) => Ri (enumD 0 xs) (fun G => G a = some (.lst xs)) G1 | _ => False)
  | _ => False := rfl
theorem x_rev : dRev mk ta σ G R = ta σ G fun x G1 => match x with
  | .tup ds => R (.tup ds.reverse) G1
  | x => match lstOf G1 x with | some ds => newL mk ds.reverse G1 R | none => False := rfl
theorem x_m {T : String} {r : D → List D → Gp → DK → Prop} : dM T r ta tr σ G R = ta σ G fun x G1 => mty G1 x = some T ∧ tr σ G1 fun ds G2 => r x ds G2 R := rfl
theorem x_m0 {T : String} {r : D → List D → Gp → DK → Prop} : dM0 T r ta σ G R = ta σ G fun x G1 => mty G1 x = some T ∧ r x [] G1 R := rfl
theorem x_zip : dZipM tr σ G Ri = tr σ G fun ds G1 => match ds with
  | [x, y] => (match srcD G1 x, srcD G1 y with | some (_, xs, g1), some (_, ys, g2) => Ri (zipD xs ys) (fun G => g1 G ∧ g2 G) G1 | _, _ => False)
  | _ => False := rfl
theorem x_star_t {n j : Nat} {is : List Nat} {ds : List D} : dStar n j is (.tup ds) σ G Rg = (n ≤ ds.length + 1 ∧ Rg (setAll σ is (starD n j ds)) G) := rfl
theorem x_star_l {n j : Nat} {is : List Nat} {ds : List D} : dStar n j is (.lst ds) σ G Rg = (n ≤ ds.length + 1 ∧ Rg (setAll σ is (starD n j ds)) G) := rfl
theorem x_lenSet : dLenSet ta σ G R = ta σ G fun x G1 => match (seqOf G1 x).bind keysD with | some ks => ks.length + 1 < scanBound ∧ R (.int (uniq ks).length) G1 | none => False := rfl
theorem x_while : dWhile c t E σ G = ∃ n, dWhN c t E n σ G := rfl
theorem x_forgo0 {gd : Gp → Prop} : dForGo g t gd E [] σ G = (gd G ∧ E.nx σ G) := rfl
theorem x_lcgo0 {gd : Gp → Prop} {acc : List D} {Q : List D → Gp → Prop} : dLcGo g c ta gd σ [] acc G Q = (gd G ∧ Q acc G) := rfl
/-- things at places -/
theorem ix_t {as : List D} {i : Int} : dIx (.tup as) (.int i) G R = isN (atI as i) fun d => R d G := rfl
theorem ix_l {as : List D} {i : Int} : dIx (.lst as) (.int i) G R = isN (atI as i) fun d => R d G := rfl
theorem ix_r {a : Addr} {i : Int} : dIx (.ref a) (.int i) G R = atL (G a) fun ds => isN (atI ds i) fun d => R d G := by
  cases e : G a with
  | none => simp only [dIx, seqOf, lstOf, atL, e]
  | some o =>
    cases o with
    | lst ds => simp only [dIx, seqOf, lstOf, atL, isN, e] <;> rfl
    | _ => simp only [dIx, seqOf, lstOf, atL, e]
end
theorem at_0 {α : Type} {a : α} {xs : List α} : atI (a :: xs) 0 = some a := atI_nat (xs := a :: xs) (j := 0) (v := a) rfl
theorem at_1 {α : Type} {a b : α} {xs : List α} : atI (a :: b :: xs) 1 = some b := atI_nat (xs := a :: b :: xs) (j := 1) (v := b) rfl
theorem at_2 {α : Type} {a b c : α} {xs : List α} : atI (a :: b :: c :: xs) 2 = some c := atI_nat (xs := a :: b :: c :: xs) (j := 2) (v := c) rfl
theorem at_3 {α : Type} {a b c d : α} {xs : List α} : atI (a :: b :: c :: d :: xs) 3 = some d := atI_nat (xs := a :: b :: c :: d :: xs) (j := 3) (v := d) rfl
theorem at_4 {α : Type} {a b c d e : α} {xs : List α} : atI (a :: b :: c :: d :: e :: xs) 4 = some e := atI_nat (xs := a :: b :: c :: d :: e :: xs) (j := 4) (v := e) rfl
theorem at_5 {α : Type} {a b c d e f : α} {xs : List α} : atI (a :: b :: c :: d :: e :: f :: xs) 5 = some f := atI_nat (xs := a :: b :: c :: d :: e :: f :: xs) (j := 5) (v := f) rfl
end DL

set_option Elab.async false
set_option linter.all false
set_option maxRecDepth 100000
set_option maxHeartbeats 4000000
set_option autoImplicit false
namespace DL
open PySem PySem.Spec PyProof.Rows L2
/-! ### sorted(xs, key=f), f a def -/
section
variable {prog : Program} {w : World} {A : Around} {E : Value → Shared → Prop} {s : Shared} {a kS : Addr} {vs : List Value} {keys : Array Value} {e e1 : Nat} {P : PySem.Fin → Shared → Prop}
end
section
variable {X : Cx} {f : Addr} {fd : FuncData} {pr : Str} {sp : Sp} {k : Nat}
end
end DL

set_option Elab.async false
set_option linter.all false
set_option maxRecDepth 100000
set_option maxHeartbeats 4000000
set_option autoImplicit false
namespace DL
open PySem PySem.Spec PyProof.Rows L2
/-! ### sorted(xs, key=f), by data: keys that are a number and a text -/
def ltK (a b : Int × Str) : Bool := decide (a.1 < b.1) || (decide (a.1 = b.1) && sLt a.2 b.2)
def leK (a b : Int × Str) : Bool := !ltK b a
def keyP : D → Option (Int × Str)
  | .tup [.int i, .str x] => some (i, x)
  | _ => none
def keysP : List D → Option (List (Int × Str))
  | [] => some []
  | d :: ds => match keyP d, keysP ds with | some k, some ks => some (k :: ks) | _, _ => none
def pyK (k : Int × Str) : PyData := .tuple [.int k.1, .str k.2]
theorem lex_pyK (a b : Int × Str) : PyProof.Rows.lexLt itemOrd (PySem.W.keyToks (pyK a)) (PySem.W.keyToks (pyK b)) = ltK a b := by
  obtain ⟨i, x⟩ := a
  obtain ⟨j, y⟩ := b
  have e : PyProof.Rows.lexLt itemOrd (PySem.W.keyToks (pyK (i, x))) (PySem.W.keyToks (pyK (j, y))) = (decide ((1:Int) < 1) || (!decide ((1:Int) < 1) && (decide (i < j) || (!decide (j < i) && (decide ((1:Int) < 1) || (!decide ((1:Int) < 1) && (decide (x.cps.toList < y.cps.toList) || (!decide (y.cps.toList < x.cps.toList) && (decide ((0:Int) < 0) || (!decide ((0:Int) < 0) && false)))))))))) := rfl
  rw [e]
  simp only [ltK, sLt]
  by_cases h1 : i < j
  · simp [h1]
  · by_cases h2 : i = j
    · subst h2
      simp
    · have : j < i := by omega
      simp [h1, h2, this]
def sortK {α : Type} (xs : List α) (kz : List (Int × Str)) : List α := ((xs.zip kz).mergeSort fun p q => leK p.2 q.2).map (·.1)
def dKeys (sp : DSp) : List D → List D → Gp → (List D → Gp → Prop) → Prop
  | [], ks, G, Q => Q ks G
  | x :: xs, ks, G, Q => sp [x] G (fun k G1 => dKeys sp xs (ks ++ [k]) G1 Q)
def dSortK1 (mk : Bool) (sp : DSp) (x : D) (G1 : Gp) (R : DK) : Prop := match seqOf G1 x with
  | some ds => dKeys sp ds [] G1 fun ks G2 => (match keysP ks with | some kz => ks.length = ds.length ∧ newL mk (sortK ds kz) G2 R | none => False)
  | none => False
def dSortK (mk : Bool) (sp : DSp) (te : DE) : DE := fun σ G R => te σ G fun x G1 => dSortK1 mk sp x G1 R
end DL

set_option Elab.async false
set_option linter.all false
set_option maxRecDepth 100000
set_option maxHeartbeats 4000000
set_option autoImplicit false
namespace DL
open PySem PySem.Spec PyProof.Rows L2
/-! ### methods, of tuples of texts too -/
theorem room100 {k : Nat} {A : Around} (r : Room k A) : A.units + 100 < cLine := by have := r.un; omega
section
variable {X : Cx}
def mtyX (G : Gp) : D → Option String
  | .nt _ => some "tuple"
  | d => mty G d
variable {o e : Expr} {es : List Expr} {to : DE} {t : DA} {name : Str} {apos cpos : Pos} {T id : String} {r : D → List D → Gp → DK → Prop}
def dMX (T : String) (r : D → List D → Gp → DK → Prop) (to : DE) (t : DA) : DE := fun σ G R => to σ G fun x G1 => mtyX G1 x = some T ∧ t σ G1 fun xs G2 => r x xs G2 R
end
section
variable {X : Cx}
theorem pure_list {ds : List D} (h : pyDs ds = true) : ∃ as, toPys ds = some as ∧ PyData.plainAll as = true := by
  obtain ⟨as, h1, h2, _⟩ := toPys_pure h
  exact ⟨as, h1, PyData.plainAll_of_canLay0 as h2⟩
theorem pure_one {d : D} (h : pyD d = true) : ∃ a, toPy d = some a ∧ a.plain = true ∧ a.depth = depD d := by
  obtain ⟨a, h1, h2, h3⟩ := toPy_pure h
  exact ⟨a, h1, PyData.plain_of_canLay0 a h2, h3⟩
theorem toPys_map {ds : List D} {as : List PyData} (h : toPys ds = some as) : ∀ {x : D} {a : PyData} (f : Bool → Nat), toPy x = some a → as.map (fun z => PyData.eqv z a) = ds.map fun z => eqD z x := by
  induction ds generalizing as with
  | nil => intro x a f hx; simp only [toPys] at h; cases h; rfl
  | cons d ds ih =>
    intro x a f hx
    simp only [toPys] at h
    split at h
    · rename_i b bs e1 e2
      cases h
      simp only [List.map_cons, ih e2 f hx, eqv_eqD e1 hx]
    · cases h
theorem any_map' {α : Type} (p : α → Bool) (l : List α) : l.any p = (l.map p).any id := by rw [List.any_map]; rfl
/-! ### in, of data -/
def dInE (f : Bool → Bool) : DR2 := fun x y G R => match x, y with
  | .str a, .str b => dInW f (.str a) (.str b) G R
  | x, y => match seqOf G y with | some ds => pyD x = true ∧ pyDs ds = true ∧ depD x ≤ 60 ∧ R (.bl (f (ds.any fun z => eqD z x))) G | none => False
theorem in_dataV {op : CmpOp} {f : Bool → Bool} (hu : X.A.units + 100 < cLine)
    (hL : ∀ {s : Shared} {c x : Value} {xs : List PyData} {d : PyData} {as bs : List Addr} {Q : Value → Shared → Prop}, Reads s.heap c (.list xs) as → Reads s.heap x d bs → PyData.plainAll xs = true → d.plain = true → X.A.units + 1 + min (PyData.depthAll xs) d.depth < cLine → Q (.bool (f (xs.any fun y => PyData.eqv y d))) s → wpAny (model X.prog X.w) X.A (compareOp op x c) Q X.xe s)
    (hT : ∀ {s : Shared} {c x : Value} {xs : List PyData} {d : PyData} {as bs : List Addr} {Q : Value → Shared → Prop}, Reads s.heap c (.tuple xs) as → Reads s.heap x d bs → PyData.plainAll xs = true → d.plain = true → X.A.units + 1 + min (PyData.depthAll xs) d.depth < cLine → Q (.bool (f (xs.any fun y => PyData.eqv y d))) s → wpAny (model X.prog X.w) X.A (compareOp op x c) Q X.xe s) :
    OpR X (compareOp op) (upR2 X.K fun x y G R => match seqOf G y with | some ds => pyD x = true ∧ pyDs ds = true ∧ depD x ≤ 60 ∧ R (.bl (f (ds.any fun z => eqD z x))) G | none => False) := by
  intro pins s σ H x y v u Q I rx ry h
  obtain ⟨c, d, G, N, R, r1, r2, rg, h, q⟩ := h
  split at h
  · rename_i ds e
    obtain ⟨h1, h2, h3, h4⟩ := h
    obtain ⟨a, ea, pa, da⟩ := pure_one h1
    obtain ⟨as, es, ps⟩ := pure_list h2
    obtain ⟨_, rx'⟩ := Dp.reads I a x v (toPy_ok r1 ea) rx
    obtain ⟨p, vs, rfl, sq, rds⟩ := seqOf_ok rg r2 e
    have hroom : X.A.units + 1 + min (PyData.depthAll as) a.depth < cLine := by have := Nat.min_le_right (PyData.depthAll as) a.depth; omega
    have hres : (as.any fun y => PyData.eqv y a) = ds.any fun z => eqD z c := by rw [any_map', toPys_map es (fun _ => 0) ea, ← any_map']
    have fin : EP X pins σ Q (.bool (f (as.any fun y => PyData.eqv y a))) s := ⟨.bl _, H, I, rfl, by rw [hres]; exact q.at rg h4 (RD.bl _)⟩
    rcases sq with sq | sq
    · obtain ⟨_, ry'⟩ := Dp.reads I (.list as) (.ref p) u (.lst sq (toPys_ok rds es)) ry
      exact hL ry' rx' ps pa hroom fin
    · obtain ⟨_, ry'⟩ := Dp.reads I (.tuple as) (.ref p) u (.tup sq (toPys_ok rds es)) ry
      exact hT ry' rx' ps pa hroom fin
  · exact h.elim
theorem inE_of {f : Value → Value → Sem Value} {g : Bool → Bool} (h1 : OpD X f (dInW g)) (h2 : OpR X f (upR2 X.K fun x y G R => match seqOf G y with | some ds => pyD x = true ∧ pyDs ds = true ∧ depD x ≤ 60 ∧ R (.bl (g (ds.any fun z => eqD z x))) G | none => False)) : OpD X f (dInE g) :=
  opr_mono (OpR.or h1 h2) fun x y H Q h => by
    obtain ⟨c, d, G, N, R, r1, r2, rg, h, q⟩ := h
    unfold dInE at h
    split at h
    · exact .inl ⟨_, _, G, N, R, r1, r2, rg, h, q⟩
    · exact .inr ⟨c, d, G, N, R, r1, r2, rg, h, q⟩
theorem od_inE (hu : X.A.units + 100 < cLine) : OpD X (compareOp .In) (dInE id) := inE_of od_in (in_dataV hu (fun a b c d e h => SeqAt.in_list_data a b c d e h) fun a b c d e h => SeqAt.in_tuple_data a b c d e h)
theorem od_notInE (hu : X.A.units + 100 < cLine) : OpD X (compareOp .NotIn) (dInE not) := inE_of od_notIn (in_dataV hu (fun a b c d e h => SeqAt.notIn_list_data a b c d e h) fun a b c d e h => SeqAt.notIn_tuple_data a b c d e h)
/-! ### the order of data -/
def dCmpE (pi : Int → Int → Bool) (ps : Str → Str → Bool) (pk : Bool → Bool → Bool) : DR2 := fun x y G R => match x, y with
  | .int i, .int j => R (.bl (pi i j)) G
  | .str a, .str b => R (.bl (ps a b)) G
  | x, y => match toPy x, toPy y with | some a, some b => PySem.W.alike a b = true ∧ a ≠ .none ∧ a.depth ≤ 60 ∧ R (.bl (pk (PySem.W.dataLt a b) (PySem.W.dataLt b a))) G | _, _ => False
theorem cmpE_of {f : Value → Value → Sem Value} {pi : Int → Int → Bool} {ps : Str → Str → Bool} {pk : Bool → Bool → Bool} (hu : X.A.units + 100 < cLine) (h1 : OpD X f (dOrd pi ps))
    (h2 : ∀ {s : Shared} {a b : Value} {da db : PyData} {as bs : List Addr} {Q : Value → Shared → Prop}, Reads s.heap a da as → Reads s.heap b db bs → PySem.W.alike da db = true → da ≠ .none → X.A.units + min da.depth db.depth < cLine → Q (.bool (pk (PySem.W.dataLt da db) (PySem.W.dataLt db da))) s → wpAny (model X.prog X.w) X.A (f a b) Q X.xe s) : OpD X f (dCmpE pi ps pk) := by
  have h3 : OpR X f (upR2 X.K fun x y G R => match toPy x, toPy y with | some a, some b => PySem.W.alike a b = true ∧ a ≠ .none ∧ a.depth ≤ 60 ∧ R (.bl (pk (PySem.W.dataLt a b) (PySem.W.dataLt b a))) G | _, _ => False) := by
    intro pins s σ H x y v u Q I rx ry h
    obtain ⟨c, d, G, N, R, r1, r2, rg, h, q⟩ := h
    split at h
    · rename_i a b ea eb
      obtain ⟨h4, h5, h6, h7⟩ := h
      obtain ⟨_, rx'⟩ := Dp.reads I a x v (toPy_ok r1 ea) rx
      obtain ⟨_, ry'⟩ := Dp.reads I b y u (toPy_ok r2 eb) ry
      exact h2 rx' ry' h4 h5 (by have := Nat.min_le_left a.depth b.depth; omega) ⟨.bl _, H, I, rfl, q.at rg h7 (RD.bl _)⟩
    · exact h.elim
  exact opr_mono (OpR.or h1 h3) fun x y H Q h => by
    obtain ⟨c, d, G, N, R, r1, r2, rg, h, q⟩ := h
    unfold dCmpE at h
    split at h
    · exact .inl ⟨_, _, G, N, R, r1, r2, rg, h, q⟩
    · exact .inl ⟨_, _, G, N, R, r1, r2, rg, h, q⟩
    · exact .inr ⟨c, d, G, N, R, r1, r2, rg, h, q⟩
def dLtE : DR2 := dCmpE (fun i j => decide (i < j)) (fun a b => sLt a b) fun l _ => l
theorem od_ltE (hu : X.A.units + 100 < cLine) : OpD X (compareOp .Lt) dLtE := cmpE_of hu od_lt fun a b c d e h => PySem.W.lt_data a b c d e h
theorem ltE_key {i j : Int} {x y : Str} {G : Gp} {R : DK} : dLtE (.tup [.int i, .str x]) (.tup [.int j, .str y]) G R = R (.bl (ltK (i, x) (j, y))) G := by
  have e := lex_pyK (i, x) (j, y)
  show (PySem.W.alike _ _ = true ∧ _ ∧ _ ∧ R (.bl (PySem.W.dataLt (pyK (i, x)) (pyK (j, y)))) G) = _
  rw [show PySem.W.dataLt (pyK (i, x)) (pyK (j, y)) = ltK (i, x) (j, y) from e]
  refine propext ⟨fun h => h.2.2.2, fun h => ⟨rfl, by simp, ?_, h⟩⟩
  simp only [pyK, PyData.depth, PyData.depthAll]
  omega
theorem ltE_ii {i j : Int} {G : Gp} {R : DK} : dLtE (.int i) (.int j) G R = R (.bl (decide (i < j))) G := rfl
theorem ltE_ss {i j : Str} {G : Gp} {R : DK} : dLtE (.str i) (.str j) G R = R (.bl (sLt i j)) G := rfl
/-! ### count, index, remove .. -/
end
end DL

set_option Elab.async false
set_option linter.all false
set_option maxRecDepth 100000
set_option maxHeartbeats 4000000
set_option autoImplicit false
namespace DL
open PySem PySem.Spec PyProof.Rows L2
section
variable {X : Cx}
/-! ### what changes lists -/
theorem UpQ.wr {K : PySem.W.Frag} {H : Hp} {N : Ns} {G : Gp} {R : DK} {Q : VK} (q : UpQ K H N G R Q) (rg : RelG K H N G) {a : Addr} {ds es : List D} {vs us : List V} {d : D} {v : V} (e : G a = some (.lst ds)) (hv : H a = some (.lst vs)) (rd : RDs K H N es us) (rv : RD K H N d v) (h : R d (gup G a (.lst es))) : Q v (upd H a (.lst us)) := by
  have kw := Kp.write (u := .lst us) (rg a _ e).1 hv rfl rfl
  exact q _ _ N _ _ h (Stp.write (u := .lst us) rg e hv rfl rfl ⟨_, upd_same, rd.le kw⟩) (rv.le kw)
def dPopAt : D → List D → Gp → DK → Prop := fun x xs G R => match x, xs with
  | .ref a, [.int i] => atL (G a) fun ds => 0 ≤ i ∧ i < 2 ^ 62 ∧ isN ds[i.toNat]? fun d => R d (gup G a (.lst (ds.eraseIdx i.toNat)))
  | _, _ => False
theorem md_popAt : MtD X "list.pop" dPopAt := md_of (rv := rPopAt) (fun pins s σ H x xs v us Q I rx rxs q => mt_popAt pins s σ H x xs v us Q I rx rxs q) fun c cs G N R x xs H Q r0 r1 rg h q => by
  unfold dPopAt at h
  split at h
  · rename_i a i
    obtain rfl := r0.of_ref
    obtain ⟨v, r, rfl, rv, rr⟩ := r1.of_cons
    rw [rr.of_nil, rv.of_int]
    unfold atL at h
    split at h
    · rename_i ds e
      obtain ⟨h1, h2, h⟩ := h
      unfold isN at h
      split at h
      · rename_i d ed
        obtain ⟨_, vs, hv, rd⟩ := rg a _ e
        obtain ⟨v, hvg, rv⟩ := rd.get ed
        have hl := (List.getElem?_eq_some_iff.mp hvg).1
        refine ⟨a, vs, i, i.toNat, v, rfl, rfl, hv, by omega, by omega, ?_, hvg, q.wr rg e hv (rd.eraseIdx _) rv h⟩
        unfold seqIndex?
        first
          | (simp; omega)
          | (split <;> simp_all <;> omega)
      · exact h.elim
    · exact h.elim
  · exact h.elim
/-! ### a new tuple of texts -/
def dTupleN : DRn := fun cs G R => match cs with | [x] => (match (lstOf G x).bind strsOf with | some zs => R (.nt zs) G | none => False) | _ => False
theorem cd_tupleN : CallD X (.type "tuple") dTupleN := by
  intro pins s σ H xs us Q I r h
  obtain ⟨cs, G, N, R, r1, rg, h, q⟩ := h
  unfold dTupleN at h
  split at h
  · rename_i x
    split at h
    · rename_i zs e
      obtain ⟨v, r', rfl, rx, rn⟩ := r1.of_cons
      obtain rfl := rn.of_nil
      obtain ⟨u, rfl, ru⟩ := vals1 r
      cases ex : lstOf G x with
      | none => rw [ex] at e; cases e
      | some ds =>
        rw [ex] at e
        obtain ⟨p, vs, rfl, sq, rds⟩ := lstOf_ok rg rx ex
        cases ru
        have hds := strsOf_ok e
        subst hds
        obtain rfl := rds.of_strs
        obtain ⟨its, rv, pl, hz⟩ := I.list sq
        have hlen := rv.length
        refine call_tuple_list pl.isList (fun h' kp => ?_) (by simp only [List.size_toArray] <;> omega)
        have I1 : L2.Inv X pins σ H { s with heap := h' } := I.kept (t' := s.toks) kp
        have hn : H h'.objs.size = none := I1.hok.fresh (Nat.le_refl _)
        have I2 : L2.Inv X pins σ (upd H h'.objs.size (.frz { cls := .type "tuple", data := .seq its.toArray } (.tup (zs.map V.str)))) { s with heap := h'.push { cls := .type "tuple", data := .seq its.toArray } } :=
          I1.laid (t' := s.toks) (fun b o e => Heap.get?_push_of_some _ e) (Nat.le_refl _) ⟨Heap.get?_push_size _ rfl, show ObjOk X.prog X.w _ _ _ (.tup _) from ⟨hz, its, rv, IsTup.new _ _⟩⟩
        refine ⟨.ref h'.objs.size, _, I2, rfl, q _ _ _ _ _ h (Stp.new0 rg hn) ?_⟩
        simp only [RD]
        exact ⟨_, rfl, .inl ⟨_, upd_same, rfl, rfl⟩⟩
    · exact h.elim
  · exact h.elim
/-! ### a def in a local name, one of several -/
variable {x : Str} {i k : Nat} {e : Expr} {es : List Expr} {t : DA} {p pos : Pos}
end
end DL

set_option Elab.async false
set_option linter.all false
set_option maxRecDepth 100000
set_option maxHeartbeats 4000000
set_option autoImplicit false
namespace DL
open PySem PySem.Spec PyProof.Rows L2
section
variable {σ : Sd} {G : Gp} {R : DK} {ta : DE} {tr : DA}
theorem x_mX {T : String} {r : D → List D → Gp → DK → Prop} : dMX T r ta tr σ G R = ta σ G fun x G1 => mtyX G1 x = some T ∧ tr σ G1 fun ds G2 => r x ds G2 R := rfl
theorem ix_n {zs : List Str} {i : Int} : dIx (.nt zs) (.int i) G R = isN (atI (zs.map .str) i) fun d => R d G := rfl
theorem x_sortK {mk : Bool} {sp : DSp} : dSortK mk sp ta σ G R = ta σ G fun x G1 => dSortK1 mk sp x G1 R := rfl
theorem len_nt {zs : List Str} : dLen [.nt zs] G R = R (.int zs.length) G := by
  show R (.int (zs.map D.str).length) G = _
  rw [List.length_map]
theorem app_r {a : Addr} {y : D} : dAppend (.ref a) [y] G R = atL (G a) fun ds => ds.length < sizeLine ∧ R .non (gup G a (.lst (ds ++ [y]))) := rfl
theorem int_b {b : Bool} : dInt [.bl b] G R = R (.int (if b then 1 else 0)) G := rfl
theorem int_i {i : Int} : dInt [.int i] G R = R (.int i) G := rfl
theorem strI_i {i : Int} : dStrI [.int i] G R = (i.natAbs.log2 < 1920 ∧ R (.str (toString i)) G) := rfl
def dStrX : DRn := fun cs G R => match cs with | [.str z] => R (.str z) G | cs => dStrI cs G R
theorem strX_i {i : Int} : dStrX [.int i] G R = (i.natAbs.log2 < 1920 ∧ R (.str (toString i)) G) := rfl
theorem strX_s {z : Str} : dStrX [.str z] G R = R (.str z) G := rfl
theorem callr_or {X : Cx} {f : Value} {r1 r2 : List V → Hp → VK → Prop} (h1 : CallR X f r1) (h2 : CallR X f r2) : CallR X f fun xs H Q => r1 xs H Q ∨ r2 xs H Q := fun pins s σ H xs us Q I r h => h.elim (h1 pins s σ H xs us Q I r) (h2 pins s σ H xs us Q I r)
theorem cd_strX {X : Cx} : CallD X (.type "str") dStrX := callr_mono (callr_or (cd_strI (X := X)) (SkE.call_str_str (X := X))) fun xs H Q h => by
  obtain ⟨cs, G, N, R, r1, rg, h, q⟩ := h
  unfold dStrX at h
  split at h
  · obtain ⟨v, r, rfl, r2, r3⟩ := r1.of_cons
    rw [r3.of_nil, r2.of_str]
    exact .inr ⟨_, rfl, q.at rg h (RD.str _)⟩
  · exact .inl ⟨cs, G, N, R, r1, rg, h, q⟩
theorem log_small {k : Nat} (h : k ≤ 100000) : ((k : Int).natAbs).log2 < 1920 := by
  rw [Int.natAbs_natCast]
  by_cases e : k = 0
  · subst e; decide
  · have h1 : k < 2 ^ 1920 := Nat.lt_of_le_of_lt h (by decide +kernel)
    exact (Nat.log2_lt e).mpr h1
end
theorem ofString_inj {a b : String} : (Str.ofString a = Str.ofString b) = (a = b) := by
  refine propext ⟨fun h => ?_, fun h => by rw [h]⟩
  rw [Str.ofString_eq_toList, Str.ofString_eq_toList] at h
  have h1 : a.toList.map Char.toNat = b.toList.map Char.toNat := congrArg (fun s : Str => s.cps.toList) h
  have inj : ∀ l m : List Char, l.map Char.toNat = m.map Char.toNat → l = m := by
    intro l
    induction l with
    | nil => intro m e; cases m <;> simp_all
    | cons c l ih =>
      intro m e
      cases m with
      | nil => simp at e
      | cons d m =>
        simp only [List.map_cons, List.cons.injEq] at e
        have : c = d := Char.toNat_inj.mp e.1
        rw [this, ih m e.2]
  exact String.toList_inj.mp (inj _ _ h1)
theorem len_lit {a : String} : (Str.ofString a).length = a.length := by
  rw [Str.ofString_eq_toList]
  unfold Str.length
  simp [String.length_toList]
theorem len_app (a b : Str) : (a ++ b).length = a.length + b.length := by
  rw [← cds_len, ← cds_len, ← cds_len, cds_app, List.length_append]
theorem lc_cons {g : DG} {c : DT} {ta : DE} {σ : Sd} {gd : Gp → Prop} {x : D} {xs acc : List D} {G : Gp} {Q : List D → Gp → Prop} (h : gd G ∧ g x σ G fun σ2 G2 => c σ2 G2 fun b G3 => br b (ta σ2 G3 fun y G4 => dLcGo g c ta gd σ xs (acc ++ [y]) G4 Q) (dLcGo g c ta gd σ xs acc G3 Q)) : dLcGo g c ta gd σ (x :: xs) acc G Q := h
theorem for_cons {g : DG} {t : DS} {gd : Gp → Prop} {E : DEnds} {x : D} {xs : List D} {σ : Sd} {G : Gp} (h : gd G ∧ g x σ G fun σ2 G2 => t { E with nx := Kont (dForGo g t gd E xs), ct := Kont (dForGo g t gd E xs), bk := E.nx } σ2 G2) : dForGo g t gd E (x :: xs) σ G := h
theorem join_l {sep : Str} {G : Gp} {R : DK} {ds : List D} {zs : List Str} (e : strsOf ds = some zs) : dJoin (.str sep) [.lst ds] G R = ((zs.map fun z : Str => z.length).sum + zs.length * sep.length ≤ 16777216 ∧ R (.str (Txt.join sep zs)) G) := by
  show (match (seqOf G (.lst ds)).bind strsOf with | some ys => (ys.map fun z : Str => z.length).sum + ys.length * sep.length ≤ 16777216 ∧ R (.str (Txt.join sep ys)) G | none => False) = _
  have : (seqOf G (.lst ds)).bind strsOf = some zs := e
  rw [this]
theorem join_go {sep : Str} {G : Gp} {R : DK} {ds : List D} {zs : List Str} (e : strsOf ds = some zs) (hl : (zs.map fun z : Str => z.length).sum + zs.length * sep.length ≤ 16777216) (h : R (.str (Txt.join sep zs)) G) : dJoin (.str sep) [.lst ds] G R := by
  rw [join_l e]; exact ⟨hl, h⟩
theorem strsOf_strs (zs : List Str) : strsOf (zs.map D.str) = some zs := by
  induction zs with
  | nil => rfl
  | cons z zs ih => simp only [List.map_cons, strsOf, ih]
end DL

set_option Elab.async false
set_option linter.all false
set_option maxRecDepth 100000
set_option maxHeartbeats 4000000
set_option autoImplicit false
namespace DL
open PySem PySem.Spec PyProof.Rows L2
section
variable {X : Cx}
/-! ### isinstance(x, (a, b)) -/
def dIsiX : DRn := fun cs G R => match cs with
  | [x, .tup [.ty m, .ty n]] => m ∈ knownTy ∧ n ∈ knownTy ∧ (match tyD G x with | some t => R (.bl (isTy t m || isTy t n)) G | none => False)
  | cs => dIsi cs G R
theorem cd_isiX : CallD X (.builtin "isinstance") dIsiX := by
  intro pins s σ H xs us Q I r h
  obtain ⟨cs, G, N, R, rd, rg, h, q⟩ := h
  unfold dIsiX at h
  split at h
  · rename_i x m n
    obtain ⟨hm, hn, h⟩ := h
    obtain ⟨v, r', rfl, r1, r2⟩ := rd.of_cons
    obtain ⟨v', r'', rfl, r3, r4⟩ := r2.of_cons
    obtain rfl := r4.of_nil
    split at h
    · rename_i t et
      obtain ⟨ty, mt⟩ := tyD_ok rg r1 et
      obtain ⟨u1, u2, rfl, ru1, ru2⟩ := vals2 r
      obtain ⟨tp, vs, rfl, sq, rvs⟩ := r3.of_tup
      cases (show u2 = Value.ref tp from ru2)
      obtain ⟨a1, r5, rfl, e1, r6⟩ := rvs.of_cons
      obtain ⟨a2, r7, rfl, e2, r8⟩ := r6.of_cons
      obtain rfl := r8.of_nil
      obtain rfl := e1.of_ty
      obtain rfl := e2.of_ty
      obtain ⟨P, Z, p, hx⟩ := kit_of I ru1 ty
      obtain ⟨its, rv, ⟨o, h1, h2, k, h3⟩, _⟩ := I.tuple sq
      have e3 := ClsV.all (.cons (.ty m) (.cons (.ty n) .nil)) rv
      subst e3
      obtain ⟨oc, od, dt, sl⟩ := o
      simp only at h2 h3
      subst h2 h3
      have k1 := kit_ty (K := X.K) (kits t mt m hm)
      have k2 := kit_ty (K := X.K) (kits t mt n hn)
      refine PySem.W.kia_tup Z I.kIn p h1 (b := isTy t m || isTy t n) ?_ hx fun tk => ⟨.bl _, H, I.tok tk, rfl, q.at rg h (RD.bl _)⟩
      simp only [PySem.W.kitAny, k1, k2]
      cases isTy t m <;> cases isTy t n <;> rfl
    · exact h.elim
  · exact cd_isi pins s σ H xs us Q I r ⟨cs, G, N, R, rd, rg, h, q⟩
variable {G : Gp} {R : DK} {n m : String} {i : Int} {z : Str} {b : Bool} {ds : List D} {zs : List Str} {p : Addr}
theorem isi_i : dIsiX [.int i, .ty n] G R = (n ∈ knownTy ∧ R (.bl (isTy "int" n)) G) := rfl
theorem isi_s : dIsiX [.str z, .ty n] G R = (n ∈ knownTy ∧ R (.bl (isTy "str" n)) G) := rfl
theorem isi_b : dIsiX [.bl b, .ty n] G R = (n ∈ knownTy ∧ R (.bl (isTy "bool" n)) G) := rfl
theorem isi_n : dIsiX [.non, .ty n] G R = (n ∈ knownTy ∧ R (.bl (isTy "NoneType" n)) G) := rfl
theorem isi_t : dIsiX [.tup ds, .ty n] G R = (n ∈ knownTy ∧ R (.bl (isTy "tuple" n)) G) := rfl
theorem isi_nt : dIsiX [.nt zs, .ty n] G R = (n ∈ knownTy ∧ R (.bl (isTy "tuple" n)) G) := rfl
theorem isi_l : dIsiX [.lst ds, .ty n] G R = (n ∈ knownTy ∧ R (.bl (isTy "list" n)) G) := rfl
theorem isi2_i : dIsiX [.int i, .tup [.ty m, .ty n]] G R = (m ∈ knownTy ∧ n ∈ knownTy ∧ R (.bl (isTy "int" m || isTy "int" n)) G) := rfl
theorem isi2_s : dIsiX [.str z, .tup [.ty m, .ty n]] G R = (m ∈ knownTy ∧ n ∈ knownTy ∧ R (.bl (isTy "str" m || isTy "str" n)) G) := rfl
theorem isi2_b : dIsiX [.bl b, .tup [.ty m, .ty n]] G R = (m ∈ knownTy ∧ n ∈ knownTy ∧ R (.bl (isTy "bool" m || isTy "bool" n)) G) := rfl
theorem isi2_n : dIsiX [.non, .tup [.ty m, .ty n]] G R = (m ∈ knownTy ∧ n ∈ knownTy ∧ R (.bl (isTy "NoneType" m || isTy "NoneType" n)) G) := rfl
theorem isi2_t : dIsiX [.tup ds, .tup [.ty m, .ty n]] G R = (m ∈ knownTy ∧ n ∈ knownTy ∧ R (.bl (isTy "tuple" m || isTy "tuple" n)) G) := rfl
theorem isi2_nt : dIsiX [.nt zs, .tup [.ty m, .ty n]] G R = (m ∈ knownTy ∧ n ∈ knownTy ∧ R (.bl (isTy "tuple" m || isTy "tuple" n)) G) := rfl
theorem isi2_l : dIsiX [.lst ds, .tup [.ty m, .ty n]] G R = (m ∈ knownTy ∧ n ∈ knownTy ∧ R (.bl (isTy "list" m || isTy "list" n)) G) := rfl
theorem kt1 : ("int" ∈ knownTy) = True := by decide
theorem kt2 : ("bool" ∈ knownTy) = True := by decide
theorem kt3 : ("str" ∈ knownTy) = True := by decide
theorem kt4 : ("tuple" ∈ knownTy) = True := by decide
theorem kt5 : ("list" ∈ knownTy) = True := by decide
theorem kt6 : ("dict" ∈ knownTy) = True := by decide
end
/-! ### slices by numbers -/
theorem cut1 {α : Type} {a : α} {xs : List α} : cutL (a :: xs) (some 1) none = xs := by
  unfold cutL; simp [HT.sIx]
theorem cut2 {α : Type} {a b : α} {xs : List α} : cutL (a :: b :: xs) (some 2) none = xs := by
  unfold cutL; simp [HT.sIx]
/-! ### local lists -/
section
variable {G : Gp} {R : DK} {p : Addr} {d : D} {o : GO} {ds : List D}
theorem rt_drop (hp : G p = none) (h : R d G) : Rt R d (gup G p o) := ret_sub (Sub.new hp) h
theorem mty_up : mty (gup G p (.lst ds)) (.ref p) = some "list" := by unfold mty; simp only [gup_same]
theorem mty_at (e : G p = some (.lst ds)) : mty G (.ref p) = some "list" := by unfold mty; simp only [e]
theorem rt_lst (hp : G p = none) (h : R (.lst ds) G) : Rt R (.ref p) (gup G p (.lst ds)) := ret_lst gup_same (Sub.new hp) hp h
theorem join_gor {sep : Str} {zs : List Str} (e : G p = some (.lst ds)) (e2 : strsOf ds = some zs) (hl : (zs.map fun z : Str => z.length).sum + zs.length * sep.length ≤ 16777216) (h : R (.str (Txt.join sep zs)) G) : dJoin (.str sep) [.ref p] G R := by
  have : (seqOf G (.ref p)).bind strsOf = some zs := by
    have e3 : seqOf G (.ref p) = some ds := by unfold seqOf lstOf; simp only [e]
    rw [e3]; exact e2
  show (match (seqOf G (.ref p)).bind strsOf with | some ys => (ys.map fun z : Str => z.length).sum + ys.length * sep.length ≤ 16777216 ∧ R (.str (Txt.join sep ys)) G | none => False)
  rw [this]
  exact ⟨hl, h⟩
end
end DL

set_option Elab.async false
set_option linter.all false
set_option maxRecDepth 100000
set_option maxHeartbeats 4000000
set_option autoImplicit false
namespace DL
open PySem PySem.Spec PyProof.Rows L2
/-! ### the order of keys -/
/-! ### choosing the first least one, again and again, sorts -/
section
variable {α : Type} {le : α → α → Bool} (tr : ∀ a b c, le a b = true → le b c = true → le a c = true) (to : ∀ a b, (le a b || le b a) = true)
include tr to in
end
end DL

set_option Elab.async false
set_option linter.all false
set_option maxRecDepth 100000
set_option maxHeartbeats 4000000
set_option autoImplicit false
namespace DL
open PySem PySem.Spec PyProof.Rows L2
section
variable {G : Gp} {R : DK} {p q s : Addr} {d : D} {o o' u : GO} {ds es : List D} {mk : Bool}
theorem newL_t : newL true ds G R = ∀ p, G p = none → R (.ref p) (gup G p (.lst ds)) := rfl
theorem lstOf_r (e : G p = some (.lst ds)) : lstOf G (.ref p) = some ds := by unfold lstOf; simp only [e]
theorem seqOf_r (e : G p = some (.lst ds)) : seqOf G (.ref p) = some ds := by unfold seqOf; exact lstOf_r e
theorem tuple_r (e : G p = some (.lst ds)) : dTuple [.ref p] G R = R (.tup ds) G := by
  show (match seqOf G (.ref p) with | some ds => R (.tup ds) G | none => False) = _
  rw [seqOf_r e]
theorem atL_at {k : List D → Prop} (e : G p = some (.lst ds)) : atL (G p) k = k ds := by rw [e]; rfl
theorem sub_keep (h : s ≠ p) (hp : G p = none) : Sub (gup G s o) (gup (gup G p u) s o) := by
  rw [gup_comm h.symm]
  exact Sub.new (by rw [gup_ne h.symm]; exact hp)
end
end DL

set_option Elab.async false
set_option linter.all false
set_option maxRecDepth 100000
set_option maxHeartbeats 4000000
set_option autoImplicit false
namespace DL
open PySem PySem.Spec PyProof.Rows L2
/-! ### data that can be keys, nested: their hashes -/
mutual
def hasK : PyData → Bool
  | .int _ => true | .str _ => true | .bool _ => true
  | .tuple xs => hasKs xs
  | _ => false
def hasKs : List PyData → Bool
  | [] => true
  | x :: xs => hasK x && hasKs xs
end
mutual
def hshK (w : World) : PyData → Int
  | .int i => hashInt i
  | .str x => hashStr w x
  | .bool b => hashInt (if b then 1 else 0)
  | .tuple xs => reduceHash (Builtin.Tuple.tupleHashOf (hshKs w xs))
  | _ => 0
def hshKs (w : World) : List PyData → List Int
  | [] => []
  | x :: xs => hshK w x :: hshKs w xs
end
mutual
def drwK : PyData → Nat
  | .tuple xs => drwKs xs + 1
  | _ => 1
def drwKs : List PyData → Nat
  | [] => 0
  | x :: xs => drwK x + drwKs xs
end
section
variable {prog : Program} {w : World}
variable {A : Around} {E : Value → Shared → Prop} {s : Shared}
/-- a hash by its type's own slot -/
theorem hash_slot {T id : String} {f : Builtin} {v : Value} {Q : Int → Shared → Prop} (hT : s.TypeIs v T) (room : [v].any Value.onHeap = false ∨ A.units < cLine) (sl : Slot T "__hash__" id) (en : entryFor table id = some f) (ok : argsOk id ⟨[v], []⟩) (ns : ∀ x t, v ≠ .str x t)
    (run : wpAny (model prog w) A.in1 (f ⟨[v], []⟩) (fun r s' => ∃ i t, r = .done (.ret (.int i t)) ∧ Q (reduceHash i) s') E s) : wpAny (model prog w) A (pyHash v) Q E s := by
  have e : pyHash v = pyHashByItsType v := by
    cases v with
    | str x t => exact absurd rfl (ns x t)
    | _ => rfl
  have nn : (some (Value.builtin id) == some Value.none) = false := by rw [beq_builtin_none]
  rw [e]
  unfold pyHashByItsType
  refine wpAny_bind (wpAny_cRoomFor_or room (wpAny_bind (wpAny_specialOf hT sl.lookup ?_)))
  simp only [nn, Bool.false_eq_true, if_false]
  refine wpAny_bind (wpAny_specialOf hT sl.lookup ?_)
  simp only [Option.isNone_some, Bool.false_eq_true, if_false]
  refine wpAny_bind (wpAny_callSpecialIfBoundUnlessNone?_slot hT sl (wpAny_call_entry sl hT en (wpAny_mono run (fun r s' h => ?_) fun _ _ x => x) ok))
  obtain ⟨i, t, rfl, q⟩ := h
  refine ⟨_, rfl, ?_⟩
  show wpAny _ _ (pyHashByItsType.reduced i) Q E s'
  unfold pyHashByItsType.reduced
  unfold reduceHash at q
  cases c : (decide (-(2 ^ 63 : Int) ≤ i) && decide (i < 2 ^ 63)) with
  | true =>
    rw [c] at q
    simp only [if_true] at q ⊢
    exact wpAny_pure q
  | false =>
    rw [c] at q
    simp only [Bool.false_eq_true, if_false] at q ⊢
    exact wpAny_bind (wpAny_rule (wpAny_pure q))
theorem hash_bool {b : Bool} {Q : Int → Shared → Prop} (q : Q (hashInt (if b then 1 else 0)) { s with toks := s.toks + 1 }) : wpAny (model prog w) A (pyHash (.bool b)) Q E s := by
  refine hash_slot (T := "bool") (f := Builtin.«int.__hash__») rfl (.inl rfl) F.slot_bool_hash entry_int_hash (args_int_hash _) (fun x t h => by cases h) ?_
  have e : reduceHash (rawHash (if b then 1 else 0)) = hashInt (if b then 1 else 0) := by cases b <;> decide +kernel
  have run : wpAny (model prog w) A.in1 (do ret (← mkInt (rawHash (if b then 1 else 0)))) (fun r s' => ∃ i t, r = .done (.ret (.int i t)) ∧ Q (reduceHash i) s') E s := by
    refine wpAny_mono (wpAny_ret_mkInt (Q := fun v s' => ∃ i t, v = .int i t ∧ Q (reduceHash i) s') ⟨_, _, rfl, by rw [e]; exact q⟩) (fun r s' h => ?_) fun _ _ x => x
    obtain ⟨v, rfl, i, t, rfl, h⟩ := h
    exact ⟨i, t, rfl, h⟩
  cases b with
  | true => exact run
  | false => exact run
mutual
theorem hash_data : ∀ (d : PyData) {A : Around} {E : Value → Shared → Prop} {s : Shared} {v : Value} {as : List Addr} {Q : Int → Shared → Prop}, Reads s.heap v d as → hasK d = true → A.units + d.depth < cLine → Q (hshK w d) { s with toks := s.toks + drwK d } → wpAny (model prog w) A (pyHash v) Q E s
  | .int i, A, E, s, v, as, Q, r, _, _, q => by cases r; exact wpAny_pyHash_int (by simpa only [hshK, drwK] using q)
  | .str x, A, E, s, v, as, Q, r, _, _, q => by cases r; exact wpAny_pyHash_str (by simpa only [hshK, drwK] using q)
  | .bool b, A, E, s, v, as, Q, r, _, _, q => by cases r; exact hash_bool (by simpa only [hshK, drwK] using q)
  | .tuple xs, A, E, s, v, as, Q, r, hk, hu, q => by
    cases r with
    | tuple h1 h2 h3 h4 =>
      rename_i a o vs n
      simp only [hasK] at hk
      simp only [PyData.depth] at hu
      refine hash_slot (T := "tuple") (f := Builtin.«tuple.__hash__») ⟨o, h1, h2⟩ (.inr (by omega)) F.slot_tuple_hash F.entry_tuple_hash (F.args_tuple_hash_1 _) (fun x t h => by cases h) ?_
      show wpAny _ _ (do
        let mut hs : Array Int := #[]
        for x in ← Builtin.Tuple.tupleItemsOf (.ref a) do hs := hs.push (← pyHash x)
        retInt (Builtin.Tuple.tupleHashOf hs.toList)) _ E s
      refine wpAny_bind (wpAny_tupleItemsOf h1 h3 (wpAny_bind ?_))
      rw [← Array.forIn_toList]
      refine hash_all xs #[] h4 hk (by show A.units + 1 + PyData.depthAll xs < cLine; omega) ?_
      simp only [hshK, drwK] at q
      refine wpAny_mono (wpAny_ret_mkInt (Q := fun v s' => ∃ i t, v = .int i t ∧ Q (reduceHash i) s') ⟨_, _, rfl, ?_⟩) (fun r s' h => ?_) fun _ _ x => x
      · simpa [Nat.add_assoc] using q
      · obtain ⟨v, rfl, i, t, rfl, h⟩ := h
        exact ⟨i, t, rfl, h⟩
  | .none, _, _, _, _, _, _, _, hk, _, _ => by simp [hasK] at hk
  | .list _, _, _, _, _, _, _, _, hk, _, _ => by simp [hasK] at hk
  | .dict _, _, _, _, _, _, _, _, hk, _, _ => by simp [hasK] at hk
theorem hash_all : ∀ (xs : List PyData) (acc : Array Int) {A : Around} {E : Value → Shared → Prop} {s : Shared} {vs : List Value} {as : List Addr} {Q : Array Int → Shared → Prop}, ReadsAll s.heap vs xs as → hasKs xs = true → A.units + PyData.depthAll xs < cLine →
    Q (acc ++ (hshKs w xs).toArray) { s with toks := s.toks + drwKs xs } → wpAny (model prog w) A (forIn vs acc fun x r => do let h ← pyHash x; pure (ForInStep.yield (r.push h))) Q E s
  | [], acc, A, E, s, vs, as, Q, r, _, _, q => by
    cases r
    rw [List.forIn_nil]
    exact wpAny_pure (by simpa [hshKs, drwKs] using q)
  | d :: xs, acc, A, E, s, vs, as, Q, r, hk, hu, q => by
    cases r with
    | cons r1 r2 =>
      simp only [hasKs, Bool.and_eq_true] at hk
      simp only [PyData.depthAll] at hu
      rw [List.forIn_cons]
      refine wpAny_bind (wpAny_bind (hash_data d r1 hk.1 (by omega) (wpAny_pure ?_)))
      refine hash_all xs _ r2 hk.2 (by omega) ?_
      simpa [hshKs, drwKs, Nat.add_assoc] using q
end
end
end DL

set_option Elab.async false
set_option linter.all false
set_option maxRecDepth 100000
set_option maxHeartbeats 4000000
set_option autoImplicit false
namespace DL
open PySem PySem.Spec PyProof.Rows L2
section
variable {prog : Program} {w : World}
/-! ### such data compare quietly -/
mutual
theorem quiet_data : ∀ (d : PyData) (n : Nat) {A : Around} {E : Value → Shared → Prop} {s : Shared} {v : Value} {as : List Addr} {Q : Bool → Shared → Prop}, Reads s.heap v d as → hasK d = true → d.depth ≤ n → Q true s → wpAny (model prog w) A (eqIsQuiet n v) Q E s
  | .int i, n, A, E, s, v, as, Q, r, _, _, q => by cases r; rw [eqIsQuiet_byValue n rfl]; exact wpAny_pure q
  | .str x, n, A, E, s, v, as, Q, r, _, _, q => by cases r; rw [eqIsQuiet_byValue n rfl]; exact wpAny_pure q
  | .bool b, n, A, E, s, v, as, Q, r, _, _, q => by cases r; rw [eqIsQuiet_byValue n rfl]; exact wpAny_pure q
  | .tuple xs, 0, A, E, s, v, as, Q, r, hk, hu, q => by simp [PyData.depth] at hu
  | .tuple xs, n + 1, A, E, s, v, as, Q, r, hk, hu, q => by
    cases r with
    | tuple h1 h2 h3 h4 =>
      rename_i a o vs m
      simp only [hasK] at hk
      simp only [PyData.depth] at hu
      have ty : s.TypeIs (.ref a) "tuple" := ⟨o, h1, h2⟩
      unfold eqIsQuiet
      refine wpAny_bind (wpAny_specialOf ty F.slot_tuple_eq.lookup ?_)
      show wpAny _ _ (do
        if !(← isInstance (.ref a) (.type "tuple")) then return false
        for y in (← seqItems? (.ref a)).getD #[] do
          if !(← eqIsQuiet n y) then return false
        return true) Q E s
      refine wpAny_bind (wpAny_isInstance ty isSubtype_tuple_tuple ?_)
      simp only [Bool.not_true, Bool.false_eq_true, if_false]
      refine wpAny_bind (wpAny_seqItems h1 h3 (wpAny_bind ?_))
      show wpAny _ _ (forIn vs _ _) _ _ s
      rw [← Array.forIn_toList]
      refine quiet_all xs n h4 hk (by omega) ?_
      exact wpAny_pure q
  | .none, _, _, _, _, _, _, _, _, hk, _, _ => by simp [hasK] at hk
  | .list _, _, _, _, _, _, _, _, _, hk, _, _ => by simp [hasK] at hk
  | .dict _, _, _, _, _, _, _, _, _, hk, _, _ => by simp [hasK] at hk
theorem quiet_all : ∀ (xs : List PyData) (n : Nat) {A : Around} {E : Value → Shared → Prop} {s : Shared} {vs : List Value} {as : List Addr} {Q : Option Bool × Unit → Shared → Prop}, ReadsAll s.heap vs xs as → hasKs xs = true → PyData.depthAll xs ≤ n → Q (none, ()) s →
    wpAny (model prog w) A (forIn vs ((none, ()) : Option Bool × Unit) fun y r => do
      if (!(← eqIsQuiet n y)) = true then pure (ForInStep.done (some false, ())) else pure (ForInStep.yield (none, ()))) Q E s
  | [], n, A, E, s, vs, as, Q, r, _, _, q => by
    cases r
    rw [List.forIn_nil]
    exact wpAny_pure q
  | d :: xs, n, A, E, s, vs, as, Q, r, hk, hu, q => by
    cases r with
    | cons r1 r2 =>
      simp only [hasKs, Bool.and_eq_true] at hk
      simp only [PyData.depthAll] at hu
      rw [List.forIn_cons]
      refine wpAny_bind (wpAny_bind (quiet_data d n r1 hk.1 (by omega) ?_))
      simp only [Bool.not_true, Bool.false_eq_true, if_false]
      exact wpAny_pure (quiet_all xs n r2 hk.2 (by omega) q)
end
end
end DL

set_option Elab.async false
set_option linter.all false
set_option maxRecDepth 100000
set_option maxHeartbeats 4000000
set_option autoImplicit false
namespace DL
open PySem PySem.Spec PyProof.Rows L2
/-! ### what is the same, among such data -/
mutual
theorem eqv_sym : ∀ a b : PyData, PyData.eqv a b = PyData.eqv b a
  | .none, .none => rfl
  | .none, .bool b => rfl
  | .none, .int b => rfl
  | .none, .str b => rfl
  | .none, .list b => rfl
  | .none, .tuple b => rfl
  | .none, .dict b => rfl
  | .bool a, .none => rfl
  | .bool a, .bool b => by simp only [PyData.eqv]; exact Bool.beq_comm
  | .bool a, .int b => by simp only [PyData.eqv]; exact Bool.beq_comm
  | .bool a, .str b => rfl
  | .bool a, .list b => rfl
  | .bool a, .tuple b => rfl
  | .bool a, .dict b => rfl
  | .int a, .none => rfl
  | .int a, .bool b => by simp only [PyData.eqv]; exact Bool.beq_comm
  | .int a, .int b => by simp only [PyData.eqv]; exact Bool.beq_comm
  | .int a, .str b => rfl
  | .int a, .list b => rfl
  | .int a, .tuple b => rfl
  | .int a, .dict b => rfl
  | .str a, .none => rfl
  | .str a, .bool b => rfl
  | .str a, .int b => rfl
  | .str a, .str b => by simp only [PyData.eqv]; exact Bool.beq_comm
  | .str a, .list b => rfl
  | .str a, .tuple b => rfl
  | .str a, .dict b => rfl
  | .list a, .none => rfl
  | .list a, .bool b => rfl
  | .list a, .int b => rfl
  | .list a, .str b => rfl
  | .list a, .list b => by simp only [PyData.eqv]; exact eqvAll_sym a b
  | .list a, .tuple b => rfl
  | .list a, .dict b => rfl
  | .tuple a, .none => rfl
  | .tuple a, .bool b => rfl
  | .tuple a, .int b => rfl
  | .tuple a, .str b => rfl
  | .tuple a, .list b => rfl
  | .tuple a, .tuple b => by simp only [PyData.eqv]; exact eqvAll_sym a b
  | .tuple a, .dict b => rfl
  | .dict a, .none => rfl
  | .dict a, .bool b => rfl
  | .dict a, .int b => rfl
  | .dict a, .str b => rfl
  | .dict a, .list b => rfl
  | .dict a, .tuple b => rfl
  | .dict a, .dict b => rfl
theorem eqvAll_sym : ∀ xs ys : List PyData, PyData.eqvAll xs ys = PyData.eqvAll ys xs
  | [], [] => rfl
  | [], _ :: _ => rfl
  | _ :: _, [] => rfl
  | x :: xs, y :: ys => by simp only [PyData.eqvAll, eqv_sym x y, eqvAll_sym xs ys]
end
mutual
theorem eqv_trs : ∀ a b c : PyData, hasK a = true → hasK b = true → hasK c = true → PyData.eqv a b = true → PyData.eqv b c = true → PyData.eqv a c = true
  | .tuple xs, .tuple ys, .tuple zs, h1, h2, h3, e1, e2 => by
    simp only [PyData.eqv, hasK] at *
    exact eqvAll_trs xs ys zs h1 h2 h3 e1 e2
  | .str x, .str y, .str z, _, _, _, e1, e2 => by
    simp only [PyData.eqv, beq_iff_eq] at *
    rw [e1, e2]
  | .int i, b, c, _, hb, hc, e1, e2 => by
    cases b <;> cases c <;> simp only [PyData.eqv, hasK, Bool.false_eq_true, beq_iff_eq] at * <;> simp_all
  | .bool i, b, c, _, hb, hc, e1, e2 => by
    cases b <;> cases c <;> simp only [PyData.eqv, hasK, Bool.false_eq_true, beq_iff_eq] at * <;> simp_all
    rename_i b c
    cases i <;> cases c <;> simp_all
  | .tuple _, .int _, _, _, _, _, e1, _ => by simp [PyData.eqv] at e1
  | .tuple _, .str _, _, _, _, _, e1, _ => by simp [PyData.eqv] at e1
  | .tuple _, .bool _, _, _, _, _, e1, _ => by simp [PyData.eqv] at e1
  | .tuple _, .tuple _, .int _, _, _, _, _, e2 => by simp [PyData.eqv] at e2
  | .tuple _, .tuple _, .str _, _, _, _, _, e2 => by simp [PyData.eqv] at e2
  | .tuple _, .tuple _, .bool _, _, _, _, _, e2 => by simp [PyData.eqv] at e2
  | .str _, .int _, _, _, _, _, e1, _ => by simp [PyData.eqv] at e1
  | .str _, .tuple _, _, _, _, _, e1, _ => by simp [PyData.eqv] at e1
  | .str _, .bool _, _, _, _, _, e1, _ => by simp [PyData.eqv] at e1
  | .str _, .str _, .int _, _, _, _, _, e2 => by simp [PyData.eqv] at e2
  | .str _, .str _, .tuple _, _, _, _, _, e2 => by simp [PyData.eqv] at e2
  | .str _, .str _, .bool _, _, _, _, _, e2 => by simp [PyData.eqv] at e2
  | .none, _, _, h, _, _, _, _ => by simp [hasK] at h
  | .list _, _, _, h, _, _, _, _ => by simp [hasK] at h
  | .dict _, _, _, h, _, _, _, _ => by simp [hasK] at h
  | .tuple _, .none, _, _, h, _, _, _ => by simp [hasK] at h
  | .tuple _, .list _, _, _, h, _, _, _ => by simp [hasK] at h
  | .tuple _, .dict _, _, _, h, _, _, _ => by simp [hasK] at h
  | .str _, .none, _, _, h, _, _, _ => by simp [hasK] at h
  | .str _, .list _, _, _, h, _, _, _ => by simp [hasK] at h
  | .str _, .dict _, _, _, h, _, _, _ => by simp [hasK] at h
  | .tuple _, .tuple _, .none, _, _, h, _, _ => by simp [hasK] at h
  | .tuple _, .tuple _, .list _, _, _, h, _, _ => by simp [hasK] at h
  | .tuple _, .tuple _, .dict _, _, _, h, _, _ => by simp [hasK] at h
  | .str _, .str _, .none, _, _, h, _, _ => by simp [hasK] at h
  | .str _, .str _, .list _, _, _, h, _, _ => by simp [hasK] at h
  | .str _, .str _, .dict _, _, _, h, _, _ => by simp [hasK] at h
theorem eqvAll_trs : ∀ xs ys zs : List PyData, hasKs xs = true → hasKs ys = true → hasKs zs = true → PyData.eqvAll xs ys = true → PyData.eqvAll ys zs = true → PyData.eqvAll xs zs = true
  | [], [], [], _, _, _, _, _ => rfl
  | x :: xs, y :: ys, z :: zs, h1, h2, h3, e1, e2 => by
    simp only [PyData.eqvAll, hasKs, Bool.and_eq_true] at *
    exact ⟨eqv_trs x y z h1.1 h2.1 h3.1 e1.1 e2.1, eqvAll_trs xs ys zs h1.2 h2.2 h3.2 e1.2 e2.2⟩
  | [], _ :: _, _, _, _, _, e1, _ => by simp [PyData.eqvAll] at e1
  | _ :: _, [], _, _, _, _, e1, _ => by simp [PyData.eqvAll] at e1
  | [], [], _ :: _, _, _, _, _, e2 => by simp [PyData.eqvAll] at e2
  | _ :: _, _ :: _, [], _, _, _, _, e2 => by simp [PyData.eqvAll] at e2
end
mutual
theorem eqv_hsh (w : World) : ∀ a b : PyData, hasK a = true → hasK b = true → PyData.eqv a b = true → hshK w a = hshK w b
  | .tuple xs, .tuple ys, h1, h2, e => by
    simp only [PyData.eqv, hasK] at *
    simp only [hshK, eqvAll_hsh w xs ys h1 h2 e]
  | .tuple xs, .int _, _, _, e => by simp [PyData.eqv] at e
  | .tuple xs, .str _, _, _, e => by simp [PyData.eqv] at e
  | .tuple xs, .bool _, _, _, e => by simp [PyData.eqv] at e
  | .tuple xs, .none, _, h, _ => by simp [hasK] at h
  | .tuple xs, .list _, _, h, _ => by simp [hasK] at h
  | .tuple xs, .dict _, _, h, _ => by simp [hasK] at h
  | .int i, b, _, hb, e => by cases b <;> simp only [PyData.eqv, hasK, hshK, Bool.false_eq_true, beq_iff_eq] at * <;> rw [e]
  | .bool i, b, _, hb, e => by cases b <;> simp only [PyData.eqv, hasK, hshK, Bool.false_eq_true, beq_iff_eq] at * <;> rw [e]
  | .str i, b, _, hb, e => by cases b <;> simp only [PyData.eqv, hasK, hshK, Bool.false_eq_true, beq_iff_eq] at * <;> rw [e]
  | .none, _, h, _, _ => by simp [hasK] at h
  | .list _, _, h, _, _ => by simp [hasK] at h
  | .dict _, _, h, _, _ => by simp [hasK] at h
theorem eqvAll_hsh (w : World) : ∀ xs ys : List PyData, hasKs xs = true → hasKs ys = true → PyData.eqvAll xs ys = true → hshKs w xs = hshKs w ys
  | [], [], _, _, _ => rfl
  | x :: xs, y :: ys, h1, h2, e => by
    simp only [PyData.eqvAll, hasKs, Bool.and_eq_true] at *
    simp only [hshKs, eqv_hsh w x y h1.1 h2.1 e.1, eqvAll_hsh w xs ys h1.2 h2.2 e.2]
  | [], _ :: _, _, _, e => by simp [PyData.eqvAll] at e
  | _ :: _, [], _, _, e => by simp [PyData.eqvAll] at e
end
mutual
theorem hasK_plain : ∀ a : PyData, hasK a = true → a.plain = true
  | .tuple xs, h => by simp only [hasK] at h; simp only [PyData.plain]; exact hasKs_plain xs h
  | .int _, _ => rfl
  | .str _, _ => rfl
  | .bool _, _ => rfl
  | .none, h => by simp [hasK] at h
  | .list _, h => by simp [hasK] at h
  | .dict _, h => by simp [hasK] at h
theorem hasKs_plain : ∀ xs : List PyData, hasKs xs = true → PyData.plainAll xs = true
  | [], _ => rfl
  | x :: xs, h => by simp only [hasKs, Bool.and_eq_true] at h; simp only [PyData.plainAll, hasK_plain x h.1, hasKs_plain xs h.2, Bool.and_self]
end
end DL

set_option Elab.async false
set_option linter.all false
set_option maxRecDepth 100000
set_option maxHeartbeats 4000000
set_option autoImplicit false
namespace DL
open PySem PySem.Spec PyProof.Rows L2
/-! ### dicts whose keys are such data -/
structure Ents (w : World) (h : Heap) (ks : List PyData) (es : Array DictEntry) : Prop where
  len : es.size = ks.length
  at_ : ∀ (i : Nat) (e : DictEntry) (k : PyData), es[i]? = some e → ks[i]? = some k → e.hash = hshK w k ∧ ∃ as, Reads h e.key k as
  has : ∀ k ∈ ks, hasK k = true ∧ k.depth ≤ 8
  uniq : ∀ (i j : Nat) (a b : PyData), i < j → ks[i]? = some a → ks[j]? = some b → PyData.eqv a b = false
section
variable {prog : Program} {w : World} {A : Around} {E : Value → Shared → Prop} {s : Shared} {d : Addr} {o : Obj} {es : Array DictEntry} {ep : Nat} {ks : List PyData} {key : Value} {k : PyData} {as : List Addr}
theorem Ents.get (X : Ents w s.heap ks es) {i : Nat} (hi : i < es.size) : ∃ e a, es[i]? = some e ∧ ks[i]? = some a ∧ e.hash = hshK w a ∧ (∃ as, Reads s.heap e.key a as) ∧ hasK a = true ∧ a.depth ≤ 8 := by
  have h2 : i < ks.length := by rw [← X.len]; exact hi
  have h3 := X.at_ i es[i] ks[i] (Array.getElem?_eq_getElem hi) (List.getElem?_eq_getElem h2)
  have h4 := X.has ks[i] (List.getElem_mem h2)
  exact ⟨_, _, Array.getElem?_eq_getElem hi, List.getElem?_eq_getElem h2, h3.1, h3.2, h4⟩
theorem Ents.same (X : Ents w s.heap ks es) {i j : Nat} {a b : PyData} (hi : ks[i]? = some a) (hj : ks[j]? = some b) (hk : hasK k = true) (h1 : PyData.eqv a k = true) (h2 : PyData.eqv b k = true) : i = j := by
  have ka := (X.has a (List.mem_of_getElem? hi)).1
  have kb := (X.has b (List.mem_of_getElem? hj)).1
  have e : PyData.eqv a b = true := eqv_trs a k b ka hk kb h1 (by rw [eqv_sym]; exact h2)
  rcases Nat.lt_trichotomy i j with h | h | h
  · rw [X.uniq i j a b h hi hj] at e; cases e
  · exact h
  · rw [eqv_sym, X.uniq j i b a h hj hi] at e; cases e
theorem calm_all {M : Model} {σ : Type} {x0 : σ} {f : Value → σ → Sem (ForInStep σ)} {Q : σ → Shared → Prop} : ∀ (vs : List Value), (∀ v ∈ vs, ∀ (R : ForInStep σ → Shared → Prop), R (.yield x0) s → wpAny M A (f v x0) R E s) → Q x0 s → wpAny M A (forIn vs x0 f) Q E s
  | [], _, q => by rw [List.forIn_nil]; exact wpAny_pure q
  | v :: vs, h, q => by
    rw [List.forIn_cons]
    exact wpAny_bind (h v (by simp) _ (calm_all vs (fun u hu => h u (List.mem_cons_of_mem _ hu)) q))
end
end DL

set_option Elab.async false
set_option linter.all false
set_option maxRecDepth 100000
set_option maxHeartbeats 4000000
set_option autoImplicit false
namespace DL
open PySem PySem.Spec PyProof.Rows L2
/-! ### parts of such data -/
theorem readsAll_mem {h : Heap} : ∀ {vs : List Value} {xs : List PyData} {as : List Addr} {v : Value}, ReadsAll h vs xs as → v ∈ vs → ∃ x ∈ xs, ∃ as', Reads h v x as'
  | _, _, _, v, .nil, hv => by cases hv
  | _, _, _, v, .cons r1 r2, hv => by
    rcases List.mem_cons.mp hv with rfl | hv
    · exact ⟨_, List.mem_cons_self, _, r1⟩
    · obtain ⟨x, hx, r⟩ := readsAll_mem r2 hv
      exact ⟨x, List.mem_cons_of_mem _ hx, r⟩
theorem hasKs_mem : ∀ {xs : List PyData} {x : PyData}, hasKs xs = true → x ∈ xs → hasK x = true
  | y :: ys, x, h, hx => by
    simp only [hasKs, Bool.and_eq_true] at h
    rcases List.mem_cons.mp hx with rfl | hx
    · exact h.1
    · exact hasKs_mem h.2 hx
theorem depth_mem : ∀ {xs : List PyData} {x : PyData} {n : Nat}, PyData.depthAll xs ≤ n → x ∈ xs → x.depth ≤ n
  | y :: ys, x, n, h, hx => by
    simp only [PyData.depthAll] at h
    rcases List.mem_cons.mp hx with rfl | hx
    · omega
    · exact depth_mem (by omega) hx
section
variable {prog : Program} {w : World}
/-- going through values, each of which may end it -/
theorem loop_two {M : Model} {A : Around} {E : Value → Shared → Prop} {s : Shared} {σ : Type} {x0 x1 : σ} {f : Value → σ → Sem (ForInStep σ)} {Q : σ → Shared → Prop} (q0 : Q x0 s) (q1 : Q x1 s) :
    ∀ (vs : List Value), (∀ v ∈ vs, ∀ (R : ForInStep σ → Shared → Prop), R (.yield x0) s → R (.done x1) s → wpAny M A (f v x0) R E s) → wpAny M A (forIn vs x0 f) Q E s
  | [], _ => by rw [List.forIn_nil]; exact wpAny_pure q0
  | v :: vs, h => by
    rw [List.forIn_cons]
    exact wpAny_bind (h v List.mem_cons_self _ (loop_two q0 q1 vs fun u hu => h u (List.mem_cons_of_mem _ hu)) (wpAny_pure q1))
/-- such data are of no class statement -/
theorem noclass_data : ∀ (n : Nat) (d : PyData) {A : Around} {E : Value → Shared → Prop} {s : Shared} {v : Value} {as : List Addr} {Q : Bool → Shared → Prop}, Reads s.heap v d as → hasK d = true → d.depth ≤ n → Q false s → wpAny (model prog w) A (ofAClassStatement n v) Q E s := by
  intro n
  induction n with
  | zero =>
    intro d A E s v as Q r hk hn q
    cases r with
    | tuple h1 h2 h3 h4 => simp [PyData.depth] at hn
    | list h1 h2 h3 h4 => simp [hasK] at hk
    | dict h1 => simp [hasK] at hk
    | _ => exact wpAny_pure q
  | succ n ih =>
    intro d A E s v as Q r hk hn q
    cases r with
    | tuple h1 h2 h3 h4 =>
      rename_i a o vs xs m
      simp only [hasK] at hk
      simp only [PyData.depth] at hn
      unfold ofAClassStatement
      refine wpAny_bind (wpAny_typeOf (T := "tuple") ⟨o, h1, h2⟩ ?_)
      have e : (("tuple" : String) == "tuple") = true := by decide
      simp only [e, if_true]
      refine wpAny_bind (wpAny_pure ?_)
      simp only [Bool.not_true, Bool.false_eq_true, if_false]
      refine wpAny_bind (wpAny_seqItems h1 h3 ?_)
      dsimp only
      refine wpAny_bind ?_
      rw [← Array.forIn_toList]
      refine calm_all vs.toList (fun v hv R hR => ?_) (wpAny_pure q)
      obtain ⟨x, hx, as', r⟩ := readsAll_mem h4 hv
      refine wpAny_bind (ih x r (hasKs_mem hk hx) (depth_mem (by omega) hx) ?_)
      exact wpAny_pure hR
    | list h1 h2 h3 h4 => simp [hasK] at hk
    | dict h1 => simp [hasK] at hk
    | _ => exact wpAny_pure q
/-- whether their hashes go by values is told quietly -/
theorem byval_data : ∀ (n : Nat) (d : PyData) {A : Around} {E : Value → Shared → Prop} {s : Shared} {v : Value} {as : List Addr} {Q : Bool → Shared → Prop}, Reads s.heap v d as → hasK d = true → (∀ b, Q b s) → wpAny (model prog w) A (hashByValue n v) Q E s := by
  intro n
  induction n with
  | zero =>
    intro d A E s v as Q r hk q
    cases r with
    | list h1 h2 h3 h4 => simp [hasK] at hk
    | dict h1 => simp [hasK] at hk
    | _ => exact wpAny_pure (q _)
  | succ n ih =>
    intro d A E s v as Q r hk q
    cases r with
    | tuple h1 h2 h3 h4 =>
      rename_i a o vs xs m
      simp only [hasK] at hk
      unfold hashByValue
      refine wpAny_bind (wpAny_specialOf (T := "tuple") ⟨o, h1, h2⟩ F.slot_tuple_hash.lookup ?_)
      show wpAny _ _ (seqItems? (.ref a) >>= _) _ _ s
      refine wpAny_bind (wpAny_seqItems h1 h3 (wpAny_bind ?_))
      show wpAny _ _ (forIn vs _ _) _ _ s
      rw [← Array.forIn_toList]
      refine loop_two (x1 := (some false, ())) (wpAny_pure (q _)) (wpAny_pure (q _)) vs.toList fun v hv R h0 h1 => ?_
      obtain ⟨x, hx, as', r⟩ := readsAll_mem h4 hv
      refine wpAny_bind (ih x r (hasKs_mem hk hx) fun b => ?_)
      cases b
      · exact wpAny_pure h1
      · exact wpAny_pure h0
    | list h1 h2 h3 h4 => simp [hasK] at hk
    | dict h1 => simp [hasK] at hk
    | _ => exact wpAny_pure (q _)
/-- a key as it stands in a heap -/
structure El (h : Heap) (p : Addr × PyData) : Prop where
  rd : ∃ as, Reads h (.ref p.1) p.2 as
  has : hasK p.2 = true
  dp : p.2.depth ≤ 8
section
variable {A : Around} {E : Value → Shared → Prop} {s : Shared}
theorem El.eq {p q : Addr × PyData} (hp : El s.heap p) (hq : El s.heap q) (hu : A.units + 10 < cLine) {Q : Bool → Shared → Prop} (h : Q (PyData.eqv p.2 q.2) s) : wpAny (model prog w) A (eqBool (.ref p.1) (.ref q.1)) Q E s := by
  obtain ⟨as, r1⟩ := hp.rd
  obtain ⟨bs, r2⟩ := hq.rd
  exact SeqAt.eqAt_plain p.2 q.2 A s _ _ _ _ r1 r2 (hasK_plain _ hp.has) (hasK_plain _ hq.has) (by have := Nat.min_le_left p.2.depth q.2.depth; have := hp.dp; omega) _ _ _ _ h
theorem El.seen {p : Addr × PyData} (hp : El s.heap p) {ys : List Value} (hy : ∀ y ∈ ys, ∃ q, y = Value.ref q.1 ∧ El s.heap q) {Q : Bool → Shared → Prop} (h : Q false s) : wpAny (model prog w) A (searchCouldBeSeen (.ref p.1) ys) Q E s := by
  obtain ⟨as, r1⟩ := hp.rd
  unfold searchCouldBeSeen
  refine wpAny_bind (calm_all ys (fun y hv R hR => ?_) (wpAny_pure h))
  obtain ⟨q, rfl, hq⟩ := hy y hv
  obtain ⟨bs, r2⟩ := hq.rd
  dsimp only
  split
  · exact wpAny_pure hR
  · refine wpAny_bind (quiet_data p.2 8 r1 hp.has hp.dp ?_)
    refine wpAny_bind (quiet_data q.2 8 r2 hq.has hq.dp ?_)
    refine wpAny_bind (noclass_data 8 p.2 r1 hp.has hp.dp ?_)
    refine wpAny_bind (noclass_data 8 q.2 r2 hq.has hq.dp ?_)
    exact wpAny_pure hR
end
end
/-! ### the table -/
/-- the c-th stand on a hash's way -/
abbrev stand (t : SetTable) (h : Int) (c : Nat) : SetTable.Probe := nth t.mask (t.probeStart h) c
theorem stand_bare (t : SetTable) (h : Int) : ∀ c, (stand t h c).dummy = none
  | 0 => rfl
  | c + 1 => by
    have ih := stand_bare t h c
    show (nth t.mask (t.probeStart h) (c + 1)).dummy = none
    rw [nth_succ]
    unfold adv
    split <;> exact ih
/-- what a look from the c-th stand on tells -/
theorem look_from {t : SetTable} {hs : List Int} (T : TabOk t hs) {at_ : Nat → Int} (hat : ∀ i, i < hs.length → hs[i]? = some (at_ i)) {h : Int} {c K : Nat} (hc : c ≤ K) (hf : K < 10 * SetTable.turns t.mask) (hK : way t.mask h K ∉ t.place.toList)
    (hb : ∀ k, k < K → way t.mask h k ∈ t.place.toList) :
    (∃ n i : Nat, c ≤ n ∧ n < K ∧ t.place.toList[i]? = some (way t.mask h n) ∧ hs[i]? = some h ∧ (∀ m j : Nat, c ≤ m → m < n → t.place.toList[j]? = some (way t.mask h m) → hs[j]? ≠ some h) ∧ t.probe at_ h (stand t h c) = some (.candidate (way t.mask h n) i (stand t h (n + 1)))) ∨
    ((∀ m j : Nat, c ≤ m → m < K → t.place.toList[j]? = some (way t.mask h m) → hs[j]? ≠ some h) ∧ t.probe at_ h (stand t h c) = some (.empty (way t.mask h K) none)) := by
  have sh : ∀ q, nth t.mask (stand t h c) q = stand t h (c + q) := fun q => (nth_add t.mask c _ q).symm
  have wy : ∀ q, (stand t h q).j = way t.mask h q := fun q => rfl
  have inh : ∀ {i j : Nat}, t.place.toList[i]? = some j → hs[i]? = some (at_ i) := fun {i j} e => hat i (by
    have h1 := (List.getElem?_eq_some_iff.mp e).1
    rw [Array.length_toList, T.sz] at h1
    exact h1)
  rcases go_spec t T.ris T.dm at_ h (10 * SetTable.turns t.mask) (K - c) (stand t h c) (stand_bare t h c) (by omega) (fun q hq => by rw [sh, wy]; exact hb _ (by omega)) (by rw [sh, wy, show c + (K - c) = K by omega]; exact hK) with ⟨q, i, h1, h2, h3, h4, h5⟩ | ⟨h1, h2⟩
  · rw [sh, wy] at h2
    refine .inl ⟨c + q, i, by omega, by omega, h2, by rw [inh h2, h3], fun m j a b e z => ?_, ?_⟩
    · refine h4 (m - c) j (by omega) (by rw [sh, wy, show c + (m - c) = m by omega]; exact e) ?_
      rw [inh e] at z
      exact Option.some.inj z
    · rw [sh, sh, wy] at h5
      exact h5
  · refine .inr ⟨fun m j a b e z => ?_, ?_⟩
    · refine h1 (m - c) j (by omega) (by rw [sh, wy, show c + (m - c) = m by omega]; exact e) ?_
      rw [inh e] at z
      exact Option.some.inj z
    · rw [sh, wy, show c + (K - c) = K by omega] at h2
      exact h2
end DL

set_option Elab.async false
set_option linter.all false
set_option maxRecDepth 100000
set_option maxHeartbeats 4000000
set_option autoImplicit false
namespace DL
open PySem PySem.Spec PyProof.Rows L2
/-! ### sets of such data -/
abbrev El.row (w : World) (p : Addr × PyData) : Int × Value := (hshK w p.2, .ref p.1)
structure SetN (w : World) (h : Heap) (a : Addr) (L : List (Addr × PyData)) (es : Array (Int × Value)) (ep : Nat) (t : SetTable) : Prop where
  ob : ∃ o, h.get? a = some o ∧ o.ExactSet ∧ o.data = .set es ep t
  rows : es.toList = L.map (El.row w)
  tab : TabOk t (L.map fun p => hshK w p.2)
  els : ∀ p ∈ L, El h p
  room : L.length * 5 < t.mask * 3
  few : L.length < 64
abbrev inK (L : List (Addr × PyData)) (k : PyData) : Bool := L.any fun p => PyData.eqv p.2 k
section
variable {prog : Program} {w : World} {A : Around} {E : Value → Shared → Prop} {s : Shared} {a : Addr} {L : List (Addr × PyData)} {es : Array (Int × Value)} {ep : Nat} {t : SetTable} {x : Addr × PyData}
theorem SetN.size (R : SetN w s.heap a L es ep t) : es.size = L.length := by
  rw [← Array.length_toList, R.rows, List.length_map]
theorem fits_few (h1 : t.dummies = #[]) (h2 : t.place.size = es.size) (h3 : es.size ≤ t.mask) : t.fits es.size = true := by
  unfold SetTable.fits SetTable.fill
  rw [h1, h2]
  simpa using h3
theorem SetN.fits (R : SetN w s.heap a L es ep t) : t.fits es.size = true := by
  have h1 := R.tab.sz
  rw [List.length_map, ← R.size] at h1
  have := R.room
  have := R.size
  exact fits_few R.tab.dm h1 (by omega)
theorem SetN.row (R : SetN w s.heap a L es ep t) (i : Nat) : es[i]? = L[i]?.map (El.row w) := by
  rw [← Array.getElem?_toList, R.rows, List.getElem?_map]
/-- the search, from a stand on behind which all that are like it are -/
theorem SetN.seek (R : SetN w s.heap a L es ep t) (hx : El s.heap x) (hu : A.units + 10 < cLine) {K : Nat} (hf : K < 10 * SetTable.turns t.mask) (hK : way t.mask (hshK w x.2) K ∉ t.place.toList) (hb : ∀ k, k < K → way t.mask (hshK w x.2) k ∈ t.place.toList)
    {Q : SetFound → Shared → Prop} (yes : inK L x.2 = true → Q (.there none) s) (no : inK L x.2 = false → Q (.free (way t.mask (hshK w x.2) K) false) s) :
    ∀ (n c : Nat) (from_ : Option SetTable.Probe), from_.getD (t.probeStart (hshK w x.2)) = stand t (hshK w x.2) c → c ≤ K → K < c + n →
      (∀ (i m : Nat) (p : Addr × PyData), L[i]? = some p → PyData.eqv p.2 x.2 = true → t.place.toList[i]? = some (way t.mask (hshK w x.2) m) → m < K → ∃ m', way t.mask (hshK w x.2) m' = way t.mask (hshK w x.2) m ∧ c ≤ m' ∧ m' < K) →
      wpAny (model prog w) A (setSearchFrom a (.ref x.1) (hshK w x.2) true n from_) Q E s := by
  obtain ⟨o, ho, hex, hd⟩ := R.ob
  have gw : t.gaveWay = false := by unfold SetTable.gaveWay; rw [mask_odd R.tab.mok]; rfl
  have hat : ∀ i, i < (L.map fun p => hshK w p.2).length → (L.map fun p => hshK w p.2)[i]? = some ((fun i => (es[i]?.map (·.1)).getD 0) i) := fun i hi => by
    rw [List.length_map] at hi
    simp only [List.getElem?_map, R.row i, List.getElem?_eq_getElem hi, Option.map_some, Option.getD_some]
  have lists : ∀ {i j : Nat}, t.place.toList[i]? = some j → i < L.length := fun {i j} e => by
    have := (List.getElem?_eq_some_iff.mp e).1
    rw [Array.length_toList, R.tab.sz, List.length_map] at this
    exact this
  intro n
  induction n with
  | zero => intro c _ _ h1 h2 _; omega
  | succ n ih =>
    intro c from_ hfr hc hn hre
    rw [setSearchFrom_succ]
    refine wpAny_bind (wpAny_setState_of ho hd R.fits ?_)
    simp only [gw, Bool.false_eq_true, if_false, hfr]
    rcases look_from R.tab hat hc hf hK hb with ⟨m, i, h1, h2, h3, h4, h5, h6⟩ | ⟨h1, h2⟩
    · have hi := lists h3
      have hp : L[i]? = some L[i] := List.getElem?_eq_getElem hi
      have hel := R.els L[i] (List.getElem_mem hi)
      have he : es[i]? = some (El.row w L[i]) := by rw [R.row, hp]; rfl
      have tail : wpAny (model prog w) A (searchRest a (.ref x.1) (hshK w x.2) true n es t (way t.mask (hshK w x.2) m) i (stand t (hshK w x.2) (m + 1))) Q E s := by
        unfold searchRest
        simp only [he]
        refine wpAny_bind (wpAny_holding (hel.eq hx hu ?_))
        refine wpAny_bind (wpAny_setState_of ho hd R.fits ?_)
        cases c1 : PyData.eqv L[i].2 x.2 with
        | true =>
          simp only [Bool.and_true, if_true]
          exact wpAny_pure (yes (List.any_eq_true.mpr ⟨_, List.getElem_mem hi, c1⟩))
        | false =>
          have sl : t.slot (way t.mask (hshK w x.2) m) = .live i := slot_live R.tab.ris h3
          simp only [Bool.and_false, Bool.false_eq_true, if_false, sameMem, if_true, sl, he]
          refine wpAny_bind (wpAny_isSame_ref_self (wpAny_bind (wpAny_pure ?_)))
          simp only [if_true]
          refine ih (m + 1) _ rfl (by omega) (by omega) fun i0 m0 p0 e1 e2 e3 e4 => ?_
          obtain ⟨m1, w1, w2, w3⟩ := hre i0 m0 p0 e1 e2 e3 e4
          refine ⟨m1, w1, ?_, w3⟩
          have hh : hshK w p0.2 = hshK w x.2 := eqv_hsh w _ _ (R.els p0 (List.mem_of_getElem? e1)).has hx.has e2
          have hl : (L.map fun p => hshK w p.2)[i0]? = some (hshK w x.2) := by rw [List.getElem?_map, e1, ← hh]; rfl
          rcases Nat.lt_trichotomy m1 m with z | z | z
          · exact absurd hl (h5 m1 i0 w2 z (by rw [w1]; exact e3))
          · subst z
            rw [← w1] at e3
            have s2 := slot_live R.tab.ris e3
            rw [sl] at s2
            injection s2 with s2
            subst s2
            rw [hp] at e1
            cases e1
            rw [c1] at e2
            cases e2
          · omega
      rw [h6]
      dsimp only
      cases hl : t.led with
      | true => exact tail
      | false =>
        simp only [Bool.not_false, if_true]
        refine wpAny_bind (hx.seen (fun y hy => ?_) ?_)
        · obtain ⟨e, he1, rfl⟩ := List.mem_map.mp hy
          have he2 : e ∈ es.toList := by
            have := (Array.mem_toList_iff.mp he1)
            rw [Array.mem_filter] at this
            exact Array.mem_toList_iff.mpr this.1
          rw [R.rows] at he2
          obtain ⟨q, hq, rfl⟩ := List.mem_map.mp he2
          exact ⟨q, rfl, R.els q hq⟩
        · exact tail
    · rw [h2]
      refine wpAny_pure (no ?_)
      rw [Bool.eq_false_iff]
      intro z
      obtain ⟨p, hp, e⟩ := List.any_eq_true.mp z
      obtain ⟨i, hi, rfl⟩ := List.getElem_of_mem hp
      have hp0 : L[i]? = some L[i] := List.getElem?_eq_getElem hi
      have hh : hshK w L[i].2 = hshK w x.2 := eqv_hsh w _ _ (R.els _ hp).has hx.has e
      have hl : (L.map fun p => hshK w p.2)[i]? = some (hshK w x.2) := by rw [List.getElem?_map, hp0, ← hh]; rfl
      have hpl : i < t.place.toList.length := by rw [Array.length_toList, R.tab.sz, List.length_map]; exact hi
      have hj := List.getElem?_eq_getElem hpl
      obtain ⟨m, hm, w0⟩ := R.tab.before hK hl hj
      rw [← w0] at hj
      obtain ⟨m', w1, w2, w3⟩ := hre i m _ hp0 e hj hm
      exact h1 m' i w2 w3 (by rw [w1]; exact hj) hl
/-- the search as adding asks for it -/
theorem SetN.search (R : SetN w s.heap a L es ep t) (hx : El s.heap x) (hu : A.units + 10 < cLine) {Q : SetFound → Shared → Prop} (yes : inK L x.2 = true → Q (.there none) s)
    (no : ∀ K, inK L x.2 = false → way t.mask (hshK w x.2) K ∉ t.place.toList → (∀ c, c < K → way t.mask (hshK w x.2) c ∈ t.place.toList) → Q (.free (way t.mask (hshK w x.2) K) false) s) :
    wpAny (model prog w) A (setSearch a (.ref x.1) (hshK w x.2) true) Q E s := by
  have := R.room
  obtain ⟨K, hf, hK, hb⟩ := R.tab.first (by rw [List.length_map]; omega) (hshK w x.2)
  have big : K < 100000 := by
    have := R.tab.mok
    unfold SetTable.turns at hf
    rcases this with e | e | e <;> rw [e] at hf <;> omega
  exact R.seek hx hu hf hK hb yes (fun z => no K z hK hb) 100000 0 none rfl (Nat.zero_le _) (by omega) fun i m p _ _ _ hm => ⟨m, rfl, Nat.zero_le _, hm⟩
end
end DL

set_option Elab.async false
set_option linter.all false
set_option maxRecDepth 100000
set_option maxHeartbeats 4000000
set_option autoImplicit false
namespace DL
open PySem PySem.Spec PyProof.Rows L2
/-! ### what reads does so where all but a set stays -/
section
variable {h h' : Heap} {a : Addr}
mutual
theorem reads_but (na : ∀ o vs n, h.get? a = some o → o.data ≠ .seq vs n) (sb : Heap.SameBut a h h') : ∀ (d : PyData) {v : Value} {as : List Addr}, hasK d = true → Reads h v d as → Reads h' v d as
  | .tuple xs, v, as, hk, r => by
    cases r with
    | tuple h1 h2 h3 h4 =>
      simp only [hasK] at hk
      refine .tuple ((sb.2 _ fun z => ?_).trans h1) h2 h3 (readsAll_but na sb xs hk h4)
      subst z
      exact na _ _ _ h1 h3
  | .int i, v, as, _, r => by cases r; constructor
  | .str x, v, as, _, r => by cases r; constructor
  | .bool b, v, as, _, r => by cases r; constructor
  | .none, v, as, hk, _ => by simp [hasK] at hk
  | .list _, v, as, hk, _ => by simp [hasK] at hk
  | .dict _, v, as, hk, _ => by simp [hasK] at hk
theorem readsAll_but (na : ∀ o vs n, h.get? a = some o → o.data ≠ .seq vs n) (sb : Heap.SameBut a h h') : ∀ (ds : List PyData) {vs : List Value} {as : List Addr}, hasKs ds = true → ReadsAll h vs ds as → ReadsAll h' vs ds as
  | [], _, _, _, r => by cases r; constructor
  | d :: ds, _, _, hk, r => by
    cases r with
    | cons r1 r2 =>
      simp only [hasKs, Bool.and_eq_true] at hk
      exact .cons (reads_but na sb d hk.1 r1) (readsAll_but na sb ds hk.2 r2)
end
end
/-- a list by an order of its places -/
theorem by_order {α β : Type} (f : α → β) (L : List α) (es : Array β) (hr : es.toList = L.map f) (order : Array Nat) (hp : order.toList.Perm (List.range L.length)) :
    ∃ L' : List α, (order.filterMap (es[·]?)).toList = L'.map f ∧ L'.Perm L ∧ ∀ (g : β → Int) (z : Int), L'.map (fun p => g (f p)) = order.toList.map fun i => (es.map g).getD i z := by
  have at_ : ∀ i : Nat, es[i]? = L[i]?.map f := fun i => by rw [← Array.getElem?_toList, hr, List.getElem?_map]
  have lt : ∀ i ∈ order.toList, i < L.length := fun i hi => List.mem_range.mp (hp.mem_iff.mp hi)
  have e : ∀ M : List α, (List.range M.length).filterMap (fun i => M[i]?) = M := fun M => by
    have h1 : ∀ i ∈ List.range M.length, M[i]? = (fun i => M[i]?) i := fun _ _ => rfl
    refine List.ext_getElem? fun i => ?_
    have : ∀ l : List Nat, (∀ j ∈ l, j < M.length) → ∀ i : Nat, (l.filterMap fun j => M[j]?)[i]? = l[i]?.bind fun j => M[j]? := by
      intro l
      induction l with
      | nil => intro _ i; simp
      | cons j l ih =>
        intro hl i
        have hj := List.getElem?_eq_getElem (hl j List.mem_cons_self)
        rw [List.filterMap_cons_some hj]
        cases i with
        | zero => simp only [List.getElem?_cons_zero, Option.bind_some, hj]
        | succ i => simp only [List.getElem?_cons_succ]; exact ih (fun q hq => hl q (List.mem_cons_of_mem _ hq)) i
    rw [this _ (fun j hj => List.mem_range.mp hj)]
    rcases Nat.lt_or_ge i M.length with c | c
    · rw [List.getElem?_range c]; rfl
    · rw [List.getElem?_eq_none (by simpa using c), List.getElem?_eq_none c]; rfl
  refine ⟨order.toList.filterMap fun i => L[i]?, ?_, ?_, fun g z => ?_⟩
  · rw [Array.toList_filterMap, List.map_filterMap]
    exact congrArg (fun q => order.toList.filterMap q) (funext at_)
  · have := hp.filterMap fun i => L[i]?
    rw [e L] at this
    exact this
  · revert lt
    generalize order.toList = l
    intro lt
    induction l with
    | nil => rfl
    | cons i l ih =>
      have hi := List.getElem?_eq_getElem (lt i List.mem_cons_self)
      rw [List.filterMap_cons_some hi, List.map_cons, List.map_cons, ih fun j hj => lt j (List.mem_cons_of_mem _ hj)]
      congr 1
      rw [Array.getD_eq_getD_getElem?, Array.getElem?_map, at_, hi]
      rfl
section
variable {prog : Program} {w : World} {A : Around} {E : Value → Shared → Prop} {s : Shared} {a : Addr} {L : List (Addr × PyData)} {es : Array (Int × Value)} {ep : Nat} {t : SetTable} {x : Addr × PyData} {o : Obj}
theorem El.but {h h' : Heap} {p : Addr × PyData} (hp : El h p) (ho : h.get? a = some o) (hd : o.data = .set es ep t) (sb : Heap.SameBut a h h') : El h' p := by
  obtain ⟨⟨as, r⟩, h2, h3⟩ := hp
  refine ⟨⟨as, reads_but (a := a) (fun o' vs n e z => ?_) sb _ h2 r⟩, h2, h3⟩
  rw [ho] at e
  cases e
  rw [hd] at z
  cases z
/-- the table laid anew -/
theorem set_grow (ho : s.heap.get? a = some o) (hex : o.ExactSet) (hd : o.data = .set es ep t) (hr : es.toList = L.map (El.row w)) (tab : TabOk t (L.map fun p => hshK w p.2)) (els : ∀ p ∈ L, El s.heap p) (few : L.length < 64) (le : L.length ≤ t.mask)
    {want M : Nat} (hw : SetTable.sizeAbove want = M + 1) (hM : MaskOk M) (hn : L.length * 5 < M * 3) {Q : Unit → Shared → Prop}
    (q : ∀ h' L' es' ep' t', Heap.SameBut a s.heap h' → SetN w h' a L' es' ep' t' → L'.Perm L → Q () { s with heap := h' }) : wpAny (model prog w) A (setRelay a want) Q E s := by
  have sz : es.size = L.length := by rw [← Array.length_toList, hr, List.length_map]
  have mb : M ≤ 127 := by rcases hM with e | e | e <;> omega
  have psz := tab.sz
  rw [List.length_map] at psz
  obtain ⟨t', order, e1, e2, e3, e4, _, _, e5⟩ := relaid_ok t (hs := es.map (·.1)) (wanted := want) (M := M) (by omega) hM (by rw [Array.size_map, sz]; omega)
  rw [Array.size_map, sz] at e2
  obtain ⟨L', l1, l2, l3⟩ := by_order (El.row w) L es hr order e2
  have l4 := l3 (fun p => p.1) 0
  have e3' : TabOk t' (L'.map fun p => hshK w p.2) := by
    have : (L'.map fun p => hshK w p.2) = order.toList.map fun i => (es.map (fun p => p.1)).getD i 0 := l4
    rw [this]; exact e3
  have sz' : (order.filterMap (es[·]?)).size = L.length := by rw [← Array.length_toList, l1, List.length_map, l2.length_eq]
  rw [setRelay_eq]
  refine wpAny_bind (wpAny_setState_of ho hd (fits_few tab.dm (by omega) (by omega)) ?_)
  dsimp only
  rw [if_neg (by rw [hw, sizeLine_eq]; omega), e1]
  refine wpAny_bind ?_
  dsimp only
  rw [if_neg (by rw [sz', sz]; simp)]
  refine wpAny_pure ?_
  refine wpAny_storeSet_of ho hd ?_ (by rw [sz', sizeLine_eq]; omega)
  have sb : Heap.SameBut a s.heap (s.heap.update a (Obj.putSet (order.filterMap (es[·]?)) t')) := Heap.SameBut.update ..
  exact q _ L' _ (ep + 1) t' sb ⟨⟨_, store_at ho hd, ⟨hex.1, hex.2.1, hex.2.2⟩, rfl⟩, l1, e3', fun p hp => (els p (l2.mem_iff.mp hp)).but ho hd sb, by rw [l2.length_eq, e4]; exact hn, by rw [l2.length_eq]; exact few⟩ l2
/-- a key put into the set -/
theorem SetN.add (R : SetN w s.heap a L es ep t) (hx : El s.heap x) (hu : A.units + 10 < cLine) (few : L.length + 1 < 64) {Q : Bool → Shared → Prop}
    (q : ∀ b h' L' es' ep' t', Heap.SameBut a s.heap h' → SetN w h' a L' es' ep' t' → (if inK L x.2 then L' = L else L'.Perm (x :: L)) → Q b { s with heap := h' }) : wpAny (model prog w) A (setAddHashed a (.ref x.1) (hshK w x.2)) Q E s := by
  obtain ⟨o, ho, hex, hd⟩ := R.ob
  have sz := R.size
  have room := R.room
  unfold setAddHashed
  refine wpAny_holding ?_
  rw [show (100000 : Nat) = 99999 + 1 from rfl, setAddHashedIn_succ]
  refine wpAny_bind (wpAny_setState_of ho hd R.fits ?_)
  dsimp only
  rw [if_neg (by simp [byScan, Value.scannable])]
  refine wpAny_bind (R.search hx hu (fun c => ?_) fun K c hK hb => ?_)
  · exact wpAny_pure (q false s.heap L es ep t (Heap.SameBut.refl a s.heap) R (by rw [c]; rfl))
  · refine wpAny_bind (wpAny_setState_of ho hd R.fits ?_)
    obtain ⟨q1, q2, q3, q4, _, _, _, _, q9⟩ := R.tab.put hK hb
    dsimp only
    generalize t.put (way t.mask (hshK w x.2) K) = pt at q1 q3 q4 q9 ⊢
    obtain ⟨t1, p⟩ := pt
    dsimp only at q1 q3 q4 q9 ⊢
    subst q1
    generalize SetTable.below t.place (way t.mask (hshK w x.2) K) = p at q2 q3 ⊢
    have pm : (L.take p ++ x :: L.drop p).Perm (x :: L) := put_perm L p x
    have rows1 : (SetTable.insertAt es p (hshK w x.2, Value.ref x.1)).toList = (L.take p ++ x :: L.drop p).map (El.row w) := by
      rw [SetTable.toList_insertAt, R.rows, List.map_append, List.map_cons, List.map_take, List.map_drop]
    have hs1 : (L.map fun p => hshK w p.2).take p ++ hshK w x.2 :: (L.map fun p => hshK w p.2).drop p = (L.take p ++ x :: L.drop p).map fun p => hshK w p.2 := by
      rw [List.map_append, List.map_cons, List.map_take, List.map_drop]
    rw [hs1] at q3
    have len1 : (L.take p ++ x :: L.drop p).length = L.length + 1 := by rw [pm.length_eq]; rfl
    have cont : ∀ b : Bool, wpAny (model prog w) A (do
        storeSet a (SetTable.insertAt es p (hshK w x.2, Value.ref x.1)) (if b = true then t1 else { t1 with plain := false })
        if (!false && (if b = true then t1 else { t1 with plain := false }).tooFull) = true then setRelay a (SetTable.grown (es.size + 1))
        pure true) Q E s := by
      intro b
      obtain ⟨t2, h2⟩ : ∃ t2, t2 = (if b = true then t1 else { t1 with plain := false }) := ⟨_, rfl⟩
      have T2 : TabOk t2 ((L.take p ++ x :: L.drop p).map fun p => hshK w p.2) ∧ t2.mask = t.mask ∧ t2.fill = L.length + 1 := by
        rw [h2]
        rw [List.length_map] at q9
        cases b
        · exact ⟨⟨q3.ris, q3.dm, q3.sz, q3.mok, q3.bd, q3.reach⟩, q4, q9⟩
        · exact ⟨q3, q4, q9⟩
      rw [← h2]
      obtain ⟨T2, m2, f2⟩ := T2
      generalize SetTable.insertAt es p (hshK w x.2, Value.ref x.1) = es1 at rows1 ⊢
      have sz1 : es1.size = L.length + 1 := by rw [← Array.length_toList, rows1, List.length_map, len1]
      generalize L.take p ++ x :: L.drop p = L1 at *
      refine wpAny_bind (wpAny_storeSet_of ho hd ?_ (by rw [sz1, sizeLine_eq]; omega))
      have sb : Heap.SameBut a s.heap (s.heap.update a (Obj.putSet es1 t2)) := Heap.SameBut.update ..
      have ho1 := store_at (es' := es1) (t' := t2) ho hd
      generalize s.heap.update a (Obj.putSet es1 t2) = h1 at sb ho1 ⊢
      have els1 : ∀ p ∈ L1, El h1 p := fun p hp => by
        rcases List.mem_cons.mp (pm.mem_iff.mp hp) with e | hp
        · rw [e]; exact hx.but ho hd sb
        · exact (R.els p hp).but ho hd sb
      have tf : t2.tooFull = decide ((L.length + 1) * 5 ≥ t.mask * 3) := by unfold SetTable.tooFull; rw [f2, m2]
      rw [tf]
      by_cases full : (L.length + 1) * 5 ≥ t.mask * 3
      · simp only [Bool.not_false, Bool.true_and, decide_eq_true full, if_true]
        have two : L.length = 4 ∨ L.length = 18 := by rcases R.tab.mok with e | e | e <;> rw [e] at full room <;> omega
        have grow : ∀ M, SetTable.sizeAbove (SetTable.grown (es.size + 1)) = M + 1 → MaskOk M → (L.length + 1) * 5 < M * 3 → wpAny (model prog w) A (setRelay a (SetTable.grown (es.size + 1)) >>= fun _ => pure true) Q E { s with heap := h1 } := fun M g1 g2 g3 => by
          refine wpAny_bind (set_grow (s := { s with heap := h1 }) (L := L1) ho1 ⟨hex.1, hex.2.1, hex.2.2⟩ rfl rows1 T2 els1 (by omega) (by omega) g1 g2 (by omega) fun h' L' es' ep' t' sb' R' pm' => ?_)
          exact wpAny_pure (q true h' L' es' ep' t' (sb.trans sb') R' (by rw [c]; exact pm'.trans pm))
        rcases two with e | e
        · exact grow 31 (by rw [sz, e, size_20]) (.inr (.inl rfl)) (by omega)
        · exact grow 127 (by rw [sz, e, size_76]) (.inr (.inr rfl)) (by omega)
      · simp only [Bool.not_false, Bool.true_and, decide_eq_false full, Bool.false_eq_true, if_false]
        exact wpAny_pure (q true h1 L1 es1 (ep + 1) t2 sb ⟨⟨_, ho1, ⟨hex.1, hex.2.1, hex.2.2⟩, rfl⟩, rows1, T2, els1, by omega, by omega⟩ (by rw [c]; exact pm))
    obtain ⟨as, r⟩ := hx.rd
    cases pl : t1.plain with
    | true =>
      simp only [if_true]
      exact wpAny_bind (byval_data 8 x.2 r hx.has fun b => cont b)
    | false =>
      simp only [Bool.false_eq_true, if_false]
      exact wpAny_bind (wpAny_pure (cont true))
/-- a new set -/
theorem setN_new {h : Heap} {led : Bool} (ho : h.get? a = some { cls := .type "set", dict := none, data := .set #[] 0 (.fresh 0 0 led) }) : SetN w h a [] #[] 0 (.fresh 0 0 led) :=
  ⟨⟨_, ho, ⟨rfl, rfl, rfl⟩, rfl⟩, rfl, ⟨List.Pairwise.nil, rfl, rfl, .inl rfl, fun x hx => (by cases hx), fun i h j hi => (by simp at hi)⟩, fun p hp => (by cases hp), (by show 0 * 5 < 7 * 3; decide), (by show 0 < 64; decide)⟩
end
end DL

set_option Elab.async false
set_option linter.all false
set_option maxRecDepth 100000
set_option maxHeartbeats 4000000
set_option autoImplicit false
namespace DL
open PySem PySem.Spec PyProof.Rows L2
/-! ### a set filled from anything that is walked, by what holds behind each item -/
section
variable {prog : Program} {w : World} {A : Around} {R : Result → Shared → Prop} {I : Addr} {fp wr : List Addr} {G : Array GenState → Array GenState → Prop} {n : Nat} {P : Nat → Value → Prop} {St : Nat → Shared → Prop}
theorem fill_loop (W : WalksS prog w A.in1 I fp wr G n P St) {S : Addr} (hS : S ∉ fp) {J : Nat → Heap → Prop} (keep : ∀ i h h', (∀ b o, b ∉ wr → h.get? b = some o → h'.get? b = some o) → J i h → J i h')
    (step : ∀ i v (s : Shared) (E : Value → Shared → Prop) (Q : Bool → Shared → Prop), i < n → P i v → J i s.heap → (∀ b h' tk, s.toks ≤ tk → Heap.SameBut S s.heap h' → J (i + 1) h' → Q b { s with heap := h', toks := tk }) → wpAny (model prog w) A.in1 (setAdd S v) Q E s) :
    ∀ (m i : Nat) (s : Shared), i + m = n → St i s → J i s.heap → (∀ s', Moved (S :: wr) G s s' → J n s'.heap → R (.ok (.ret .none)) s') → codeAny (model prog w) A (.builtin "set.update.loop" ⟨[.ref S, .ref I], []⟩) R s := by
  have up : ∀ b ∈ wr, b ∈ S :: wr := fun b hb => List.mem_cons_of_mem _ hb
  intro m
  induction m with
  | zero =>
    intro i s hm hst hj hR
    obtain rfl : i = n := by omega
    refine codeAny_builtin PyProof.Rows.F.entry_set_update_loop ?_
    rw [Around.under_plainId PyProof.Rows.F.plain_set_update_loop _]
    show wpAny _ A.in1 (pyNext (.ref I) >>= _) _ _ s
    exact wpAny_bind (W.done s _ _ hst fun s' mv => wpAny_pure (hR s' (mv.mono up) (keep _ _ _ mv.heap hj)))
  | succ m ih =>
    intro i s hm hst hj hR
    refine codeAny_builtin PyProof.Rows.F.entry_set_update_loop ?_
    rw [Around.under_plainId PyProof.Rows.F.plain_set_update_loop _]
    show wpAny _ A.in1 (pyNext (.ref I) >>= _) _ _ s
    refine wpAny_bind (W.item i s _ _ (by omega) hst fun v s1 hp st1 mv => ?_)
    show wpAny _ A.in1 (holding [v] (setAdd S v) >>= _) _ _ s1
    refine wpAny_bind (wpAny_holding (step i v s1 _ _ (by omega) hp (keep _ _ _ mv.heap hj) fun b h' tk ht sb j' => ?_))
    have ne : ∀ c : Addr, c ≠ S → ∀ o, s1.heap.get? c = some o → h'.get? c = some o := fun c hc o e => (sb.2 c hc).trans e
    refine wpAny_pure ⟨plainId_quiet PyProof.Rows.F.plain_set_update_loop _, ih (i + 1) _ (by omega) (W.frame _ s1 _ _ st1 ht fun c hc o e => ne c (fun z => hS (z ▸ hc)) o e) j' fun s2 mv2 j2 => hR s2 ?_ j2⟩
    exact Moved.trans W.gtrans ((mv.mono up).then_heap ht fun c o hc e => ne c (fun z => hc (z ▸ List.mem_cons_self)) o e) mv2
end
section
variable {prog : Program} {w : World} {A : Around} {E : Value → Shared → Prop} {s : Shared}
abbrev setObj (led : Bool) : Obj := { cls := .type "set", dict := none, data := .set #[] 0 (.fresh 0 0 led) }
set_option maxHeartbeats 3200000 in
/-- set(v): a new set, then what its init does -/
theorem made_set {v : Value} {J : Shared → Prop} {Q : Value → Shared → Prop}
    (run : ∀ led, wpAny (model prog w) A.in1.in1 (Builtin.«set.__init__» ⟨[.ref s.heap.objs.size, v], []⟩) (fun r s' => r = .done (.ret .none) ∧ J s') E { s with heap := s.heap.push (setObj led) })
    (q : ∀ s', J s' → Q (.ref s.heap.objs.size) s') : wpAny (model prog w) A (call (.type "set") [v]) Q E s := by
  obtain ⟨c, tl, hmro⟩ := PySem.F.called_set.mro
  have hmade := PySem.F.called_set.made
  have hsub := PySem.F.called_set.sub
  refine wpAny_call (codeAny_of_tree ?_)
  show wpAny _ _ (callAny (.type "set") _) _ _ _
  refine wpAny_pure ⟨Code.quiet_builtin _ (by decide +kernel), codeAny_builtin PySem.F.entry_type_call ?_⟩
  rw [Around.under_plain (weight_type_call_type "set" [v] []) rfl]
  have h1 := PySem.F.called_set.notType
  have h2 := PySem.F.called_set.canCreate
  have hct := PySem.F.typeCall_set_1 v
  repeat (any_goals (first | assumption | wp_step))
  refine codeAny_mono (code_set_new_1 v (E := E) (Q₁ := fun obj s₁ => ∃ led : Bool, obj = .ref s.heap.objs.size ∧ s₁ = { s with heap := s.heap.push (setObj led) }) fun led => ⟨led, rfl, rfl⟩) fun r s₁ hr => ?_
  rcases r with e | fl
  · exact hr
  cases fl with
  | ret obj =>
    obtain ⟨led, rfl, rfl⟩ := hr
    have hT : Shared.TypeIs { s with heap := s.heap.push (setObj led) } (.ref s.heap.objs.size) "set" := ⟨_, Heap.get?_push_size _ rfl, rfl⟩
    have hli := PySem.F.called_set.init.lookup
    have hbi := PySem.F.called_set.init.bind (.ref s.heap.objs.size)
    repeat (any_goals (first | assumption | wp_step))
    refine codeAny_mono (codeAny_call_builtin (R := wants (fun r s₂ => r = .none ∧ J s₂) E) PySem.F.called_set.init.plain PySem.F.entry_set_init (check_set_init_1 hT ?_)) fun r₂ s₂ hr₂ => ?_
    · exact wpAny_mono (run led) (fun r s' h => by obtain ⟨rfl, j⟩ := h; exact ⟨rfl, j⟩) fun _ _ h => h
    · rcases r₂ with e | fl₂
      · exact hr₂
      cases fl₂ with
      | ret r =>
        obtain ⟨rfl, hj⟩ := hr₂
        repeat (any_goals (first | assumption | wp_step))
        exact q _ hj
      | _ => exact hr₂.elim
  | _ => exact hr.elim

set_option maxHeartbeats 3200000 in
theorem init_list {S l : Addr} {items : Array Value} {led : Bool} {J : Nat → Heap → Prop} (hh : A.handled = none) (hl : s.heap.IsList l items) (hS : s.heap.get? S = some (setObj led))
    (keep : ∀ i h h', (∀ b o, b ∉ [s.heap.objs.size] → h.get? b = some o → h'.get? b = some o) → J i h → J i h')
    (step : ∀ i v (s' : Shared) (E : Value → Shared → Prop) (Q : Bool → Shared → Prop), i < items.size → items[i]? = some v → J i s'.heap → (∀ b h' tk, s'.toks ≤ tk → Heap.SameBut S s'.heap h' → J (i + 1) h' → Q b { s' with heap := h', toks := tk }) → wpAny (model prog w) A.in1 (setAdd S v) Q E s')
    (j0 : ∀ h', (∀ b o, s.heap.get? b = some o → h'.get? b = some o) → J 0 h') :
    wpAny (model prog w) A (Builtin.«set.__init__» ⟨[.ref S, .ref l], []⟩) (fun r s' => r = .done (.ret .none) ∧ ∃ h' tk, s' = { s with heap := h', toks := tk } ∧ J items.size h') E s := by
  have hT : s.TypeIs (.ref S) "set" := ⟨_, hS, rfl⟩
  have ne : l ≠ s.heap.objs.size := by
    obtain ⟨o, ho, _⟩ := hl
    exact Nat.ne_of_lt (Heap.lt_size ho)
  have ne2 : S ≠ l := by
    rintro rfl
    obtain ⟨o, ho, hc, _⟩ := hl
    rw [hS] at ho
    cases ho
    simp at hc
  have hSs : S < s.heap.objs.size := Heap.lt_size hS
  obtain ⟨ol, hol, hcl, nl, hdl⟩ := hl
  obtain ⟨ocls, odict, odata, oslots⟩ := ol
  simp only at hcl hdl
  subst hcl; subst hdl
  have hsls := PySem.F.sub_list_set
  have hslf := PySem.F.sub_list_frozenset
  have hne : (Value.type "list" == Value.type "dict") = false := by decide
  have hl1 : s.heap.IsList l items := ⟨_, hol, rfl, nl, rfl⟩
  unfold Builtin.«set.__init__» noKeywords Builtin.Frozenset.updateFrom
  generalize hPI : pyIter = PI
  wp_walk
  subst hPI
  refine wpAny_pyIter_list hl1 (wpAny_bind (wpAny_runValue ?_))
  refine fill_loop ((Walks.list (show A.in1.handled = none by simp [hh]) _ l ne items).toS) (S := S) (J := J) ?ns keep (fun i v s' E' Q' hi hv j q => step i v s' E' Q' hi hv j q) items.size 0 _ (by omega) ?st ?j0 ?fin
  case ns =>
    intro z
    simp only [List.mem_cons, List.not_mem_nil, or_false] at z
    rcases z with z | z
    · exact absurd hSs (z ▸ Nat.lt_irrefl _)
    · exact ne2 z
  case fin =>
    intro s' mv j
    obtain ⟨h', g', d', tk', os'⟩ := s'
    have eg : g' = s.gens := mv.gens
    have ed : d' = s.drawn := mv.drawn
    have eo : os' = s.os := mv.os
    subst eg; subst ed; subst eo
    exact wpAny_pure (wpAny_pure ⟨rfl, h', tk', rfl, j⟩)
  case st => exact ⟨⟨_, Heap.get?_push_size _ rfl, rfl, rfl⟩, hl1.push _⟩
  case j0 => exact j0 _ fun b o e => Heap.get?_push_of_some _ e

set_option maxHeartbeats 3200000 in
theorem init_tuple {S l : Addr} {items : Array Value} {led : Bool} {J : Nat → Heap → Prop} (hh : A.handled = none) (hl : s.heap.IsTuple l items) (hS : s.heap.get? S = some (setObj led))
    (keep : ∀ i h h', (∀ b o, b ∉ [s.heap.objs.size] → h.get? b = some o → h'.get? b = some o) → J i h → J i h')
    (step : ∀ i v (s' : Shared) (E : Value → Shared → Prop) (Q : Bool → Shared → Prop), i < items.size → items[i]? = some v → J i s'.heap → (∀ b h' tk, s'.toks ≤ tk → Heap.SameBut S s'.heap h' → J (i + 1) h' → Q b { s' with heap := h', toks := tk }) → wpAny (model prog w) A.in1 (setAdd S v) Q E s')
    (j0 : ∀ h', (∀ b o, s.heap.get? b = some o → h'.get? b = some o) → J 0 h') :
    wpAny (model prog w) A (Builtin.«set.__init__» ⟨[.ref S, .ref l], []⟩) (fun r s' => r = .done (.ret .none) ∧ ∃ h' tk, s' = { s with heap := h', toks := tk } ∧ J items.size h') E s := by
  have hT : s.TypeIs (.ref S) "set" := ⟨_, hS, rfl⟩
  have ne : l ≠ s.heap.objs.size := by
    obtain ⟨o, ho, _⟩ := hl
    exact Nat.ne_of_lt (Heap.lt_size ho)
  have ne2 : S ≠ l := by
    rintro rfl
    obtain ⟨o, ho, hc, _⟩ := hl
    rw [hS] at ho
    cases ho
    simp at hc
  have hSs : S < s.heap.objs.size := Heap.lt_size hS
  obtain ⟨ol, hol, hcl, nl, hdl⟩ := hl
  obtain ⟨ocls, odict, odata, oslots⟩ := ol
  simp only at hcl hdl
  subst hcl; subst hdl
  have hsls := PySem.F.sub_tuple_set
  have hslf := PySem.F.sub_tuple_frozenset
  have hne : (Value.type "tuple" == Value.type "dict") = false := by decide
  have hl1 : s.heap.IsTuple l items := ⟨_, hol, rfl, nl, rfl⟩
  unfold Builtin.«set.__init__» noKeywords Builtin.Frozenset.updateFrom
  generalize hPI : pyIter = PI
  wp_walk
  subst hPI
  refine wpAny_pyIter_tuple hl1 (wpAny_bind (wpAny_runValue ?_))
  refine fill_loop ((Walks.tuple (show A.in1.handled = none by simp [hh]) _ l ne items).toS) (S := S) (J := J) ?ns keep (fun i v s' E' Q' hi hv j q => step i v s' E' Q' hi hv j q) items.size 0 _ (by omega) ?st ?j0 ?fin
  case ns =>
    intro z
    simp only [List.mem_cons, List.not_mem_nil, or_false] at z
    rcases z with z | z
    · exact absurd hSs (z ▸ Nat.lt_irrefl _)
    · exact ne2 z
  case fin =>
    intro s' mv j
    obtain ⟨h', g', d', tk', os'⟩ := s'
    have eg : g' = s.gens := mv.gens
    have ed : d' = s.drawn := mv.drawn
    have eo : os' = s.os := mv.os
    subst eg; subst ed; subst eo
    exact wpAny_pure (wpAny_pure ⟨rfl, h', tk', rfl, j⟩)
  case st => exact ⟨⟨_, Heap.get?_push_size _ rfl, rfl, rfl⟩, hl1.push _⟩
  case j0 => exact j0 _ fun b o e => Heap.get?_push_of_some _ e
end
end DL

set_option Elab.async false
set_option linter.all false
set_option maxRecDepth 100000
set_option maxHeartbeats 4000000
set_option autoImplicit false
namespace DL
open PySem PySem.Spec PyProof.Rows L2
/-! ### len(set(..)) of nested data -/
def kStep (acc : List PyData) (k : PyData) : List PyData := if acc.any (fun z => PyData.eqv z k) then acc else acc ++ [k]
def kSet (ks : List PyData) : List PyData := ks.foldl kStep []
theorem kSet_snoc (ks : List PyData) (k : PyData) : kSet (ks ++ [k]) = kStep (kSet ks) k := by unfold kSet; rw [List.foldl_append]; rfl
theorem kStep_len (acc : List PyData) (k : PyData) : (kStep acc k).length ≤ acc.length + 1 := by unfold kStep; split <;> simp
theorem kSet_le : ∀ (ks acc : List PyData), (ks.foldl kStep acc).length ≤ acc.length + ks.length
  | [], acc => Nat.le_refl _
  | k :: ks, acc => by
    have h1 := kSet_le ks (kStep acc k)
    have h2 := kStep_len acc k
    simp only [List.foldl_cons, List.length_cons]
    omega
section
variable {prog : Program} {w : World} {A : Around} {E : Value → Shared → Prop} {s : Shared}
/-- the set holds what has come, each once -/
structure Came (w : World) (h0 h : Heap) (S : Addr) (ks : List (Addr × PyData)) (i : Nat) : Prop where
  keeps : ∀ b o, h0.get? b = some o → h.get? b = some o
  set : ∃ L es ep t, SetN w h S L es ep t ∧ (∀ p ∈ L, p ∈ ks) ∧ L.length = (kSet ((ks.take i).map (·.2))).length ∧ ∀ z, hasK z = true → inK L z = (kSet ((ks.take i).map (·.2))).any fun y => PyData.eqv y z
theorem Came.next {h0 : Heap} {S : Addr} {ks : List (Addr × PyData)} (els : ∀ p ∈ ks, El h0 p) (few : ks.length < 64) (hS : h0.get? S = none) (hu : A.units + 20 < cLine) {i : Nat} {x : Addr × PyData} (hi : ks[i]? = some x) (C : Came w h0 s.heap S ks i) {Q : Bool → Shared → Prop}
    (q : ∀ b h' tk, s.toks ≤ tk → Heap.SameBut S s.heap h' → Came w h0 h' S ks (i + 1) → Q b { s with heap := h', toks := tk }) : wpAny (model prog w) A (setAdd S (.ref x.1)) Q E s := by
  obtain ⟨L, es, ep, t, N, sub, len, mem⟩ := C.set
  have hx0 := els x (List.mem_of_getElem? hi)
  have up : ∀ p ∈ ks, El s.heap p := fun p hp => by
    obtain ⟨⟨as, r⟩, h2, h3⟩ := els p hp
    exact ⟨⟨as, Reads.keeps C.keeps r⟩, h2, h3⟩
  have hx := up x (List.mem_of_getElem? hi)
  obtain ⟨as, r⟩ := hx.rd
  have il : i < ks.length := (List.getElem?_eq_some_iff.mp hi).1
  have lt : L.length ≤ i := by
    rw [len]
    have := kSet_le ((ks.take i).map (·.2)) []
    rw [List.length_map, List.length_take] at this
    simp only [List.length_nil] at this
    unfold kSet
    omega
  unfold setAdd
  refine wpAny_holding (wpAny_bind (hash_data x.2 r hx.has (by have := hx.dp; omega) ?_))
  refine SetN.add (s := { s with toks := s.toks + drwK x.2 }) N hx (by omega) (by omega) fun b h' L' es' ep' t' sb N' hL => ?_
  have tk : (ks.take (i + 1)).map (·.2) = (ks.take i).map (·.2) ++ [x.2] := by rw [List.take_add_one, hi, List.map_append]; rfl
  refine q b h' _ (Nat.le_add_right _ _) sb ⟨fun c o e => (sb.2 c fun z => by rw [z, hS] at e; cases e).trans (C.keeps c o e), L', es', ep', t', N', ?_⟩
  rw [tk, kSet_snoc]
  have mx := mem x.2 hx.has
  unfold kStep
  rw [← mx]
  cases c : inK L x.2 with
  | true =>
    rw [c] at hL
    simp only [if_true] at hL
    subst hL
    exact ⟨sub, len, mem⟩
  | false =>
    rw [c] at hL
    simp only [Bool.false_eq_true, if_false] at hL ⊢
    refine ⟨fun p hp => ?_, by rw [hL.length_eq, List.length_cons, List.length_append, len]; rfl, fun z hz => ?_⟩
    · rcases List.mem_cons.mp (hL.mem_iff.mp hp) with e | hp
      · rw [e]; exact List.mem_of_getElem? hi
      · exact sub p hp
    · rw [List.any_append, ← mem z hz]
      show L'.any _ = _
      rw [hL.any_eq]
      simp only [List.any_cons, List.any_nil, Bool.or_false]
      exact Bool.or_comm _ _
theorem Came.keep {h0 h h' : Heap} {S : Addr} {ks : List (Addr × PyData)} {i : Nat} {wr : List Addr} (els : ∀ p ∈ ks, El h0 p) (hS : S ∉ wr) (h1 : ∀ b ∈ wr, h0.get? b = none) (k : ∀ b o, b ∉ wr → h.get? b = some o → h'.get? b = some o) (C : Came w h0 h S ks i) : Came w h0 h' S ks i := by
  obtain ⟨L, es, ep, t, N, sub, rest⟩ := C.set
  have kp : ∀ b o, h0.get? b = some o → h'.get? b = some o := fun b o e => k b o (fun z => by rw [h1 b z] at e; cases e) (C.keeps b o e)
  obtain ⟨o, ho, r⟩ := N.ob
  refine ⟨kp, L, es, ep, t, ⟨⟨o, k S o hS ho, r⟩, N.rows, N.tab, fun p hp => ?_, N.room, N.few⟩, sub, rest⟩
  obtain ⟨⟨as, r⟩, h2, h3⟩ := els p (sub p hp)
  exact ⟨⟨as, Reads.keeps kp r⟩, h2, h3⟩
/-- set(xs) of a list or tuple of such data -/
theorem set_data {l : Addr} {items : Array Value} {ks : List (Addr × PyData)} {Q : Value → Shared → Prop} (hh : A.handled = none) (hl : s.heap.IsList l items ∨ s.heap.IsTuple l items) (hi : items.toList = ks.map fun p => Value.ref p.1) (els : ∀ p ∈ ks, El s.heap p) (few : ks.length < 64) (hu : A.units + 40 < cLine)
    (q : ∀ h' tk, Came w s.heap h' s.heap.objs.size ks ks.length → Q (.ref s.heap.objs.size) { s with heap := h', toks := tk }) : wpAny (model prog w) A (call (.type "set") [.ref l]) Q E s := by
  have none_ : ∀ b, s.heap.objs.size ≤ b → s.heap.get? b = none := fun b hb => by
    cases c : s.heap.get? b with
    | none => rfl
    | some o => exact absurd (Nat.lt_of_lt_of_le (Heap.lt_size c) hb) (Nat.lt_irrefl _)
  have isz : items.size = ks.length := by rw [← Array.length_toList, hi, List.length_map]
  refine made_set (J := fun s' => ∃ h' tk, s' = { s with heap := h', toks := tk } ∧ Came w s.heap h' s.heap.objs.size ks items.size) (fun led => ?_) fun s' h => ?_
  · have hS : (s.heap.push (setObj led)).get? s.heap.objs.size = some (setObj led) := Heap.get?_push_size _ rfl
    have keep : ∀ i h h', (∀ b o, b ∉ [(s.heap.push (setObj led)).objs.size] → h.get? b = some o → h'.get? b = some o) → Came w s.heap h s.heap.objs.size ks i → Came w s.heap h' s.heap.objs.size ks i := fun i h h' k C => by
      refine C.keep els (wr := [(s.heap.push (setObj led)).objs.size]) ?_ (fun b hb => ?_) k
      · rw [Heap.size_push, List.mem_singleton]
        exact Nat.ne_of_lt (Nat.lt_succ_self _)
      · rw [List.mem_singleton.mp hb, Heap.size_push]
        exact none_ _ (Nat.le_succ _)
    have step : ∀ i v (s' : Shared) (E : Value → Shared → Prop) (Q : Bool → Shared → Prop), i < items.size → items[i]? = some v → Came w s.heap s'.heap s.heap.objs.size ks i → (∀ b h' tk, s'.toks ≤ tk → Heap.SameBut s.heap.objs.size s'.heap h' → Came w s.heap h' s.heap.objs.size ks (i + 1) → Q b { s' with heap := h', toks := tk }) → wpAny (model prog w) A.in1.in1.in1 (setAdd s.heap.objs.size v) Q E s' := by
      intro i v s' E' Q' hi' hv C q'
      rw [← Array.getElem?_toList, hi, List.getElem?_map] at hv
      cases c : ks[i]? with
      | none => rw [c] at hv; cases hv
      | some x =>
        rw [c] at hv
        cases hv
        exact C.next els few (none_ _ (Nat.le_refl _)) (by show A.units + 1 + 1 + 1 + 20 < cLine; omega) c q'
    have j0 : ∀ h', (∀ b o, (s.heap.push (setObj led)).get? b = some o → h'.get? b = some o) → Came w s.heap h' s.heap.objs.size ks 0 := fun h' k => ⟨fun b o e => k b o (Heap.get?_push_of_some _ e), [], #[], 0, _, setN_new (k _ _ hS), fun p hp => (by cases hp), rfl, fun z _ => rfl⟩
    have h1 : A.in1.in1.handled = none := by simp [hh]
    have fin : ∀ r s', (r = PySem.Fin.done (.ret .none) ∧ ∃ h' tk, s' = { { s with heap := s.heap.push (setObj led) } with heap := h', toks := tk } ∧ Came w s.heap h' s.heap.objs.size ks items.size) → r = PySem.Fin.done (.ret .none) ∧ ∃ h' tk, s' = { s with heap := h', toks := tk } ∧ Came w s.heap h' s.heap.objs.size ks items.size := fun r s' h => h
    rcases hl with hl | hl
    · exact wpAny_mono (init_list (s := { s with heap := s.heap.push (setObj led) }) (S := s.heap.objs.size) h1 (hl.push _) hS keep step j0) fin fun _ _ h => h
    · exact wpAny_mono (init_tuple (s := { s with heap := s.heap.push (setObj led) }) (S := s.heap.objs.size) h1 (hl.push _) hS keep step j0) fin fun _ _ h => h
  · obtain ⟨h', tk, rfl, C⟩ := h
    rw [isz] at C
    exact q h' tk C
end
def tupK : PyData → Bool
  | .tuple _ => true
  | _ => false
theorem reads_refs {h : Heap} : ∀ {vs : List Value} {xs : List PyData} {as : List Addr}, ReadsAll h vs xs as → xs.all tupK = true → ∃ ks : List (Addr × PyData), vs = ks.map (fun p => Value.ref p.1) ∧ xs = ks.map (·.2) ∧ ∀ p ∈ ks, ∃ as, Reads h (.ref p.1) p.2 as
  | _, _, _, .nil, _ => ⟨[], rfl, rfl, fun p hp => by cases hp⟩
  | _, _, _, .cons r1 r2, hk => by
    simp only [List.all_cons, Bool.and_eq_true] at hk
    obtain ⟨ks, h1, h2, h3⟩ := reads_refs r2 hk.2
    cases r1 with
    | tuple a1 a2 a3 a4 =>
      rename_i a o us ys n
      refine ⟨(a, _) :: ks, by rw [h1]; rfl, by rw [h2]; rfl, fun p hp => ?_⟩
      rcases List.mem_cons.mp hp with e | hp
      · rw [e]; exact ⟨_, .tuple a1 a2 a3 a4⟩
      · exact h3 p hp
    | _ => simp [tupK] at hk
section
variable {X : Cx}
def okSet (as : List PyData) : Prop := as.all tupK = true ∧ hasKs as = true ∧ PyData.depthAll as ≤ 8 ∧ as.length < 64
/-- len(set(xs)), xs ints and texts, or tuples -/
def dLenSetE (te : DE) : DE := fun σ G R => te σ G fun x G1 => match (seqOf G1 x).bind keysD with
  | some ks => ks.length + 1 < scanBound ∧ R (.int (uniq ks).length) G1
  | none => match (seqOf G1 x).bind toPys with | some as => okSet as ∧ R (.int (kSet as).length) G1 | none => False
def tLenSetE (K : PySem.W.Frag) (ta : TE) : TE := fun σ H Q => ta σ H fun x H1 =>
  (∃ l, ∃ ks : List Key, x = .ref l ∧ (SqL K H1 l (ks.map kV) ∨ SqT K H1 l (ks.map kV)) ∧ ks.length + 1 < scanBound ∧ Q (.int (uniq ks).length) H1) ∨
  ∃ l, ∃ vs, ∃ as : List PyData, x = .ref l ∧ (SqL K H1 l vs ∨ SqT K H1 l vs) ∧ DpAll K H1 vs as ∧ okSet as ∧ Q (.int (kSet as).length) H1
theorem pe_lenSetE {a : Expr} {ta : TE} {p p2 q pos : Pos} (hc : X.calm = true) (hu : X.A.units + 100 < cLine) (hg : Gl X "len") (hm : X.mg "len" = none) (hg2 : Gl X "set") (hm2 : X.mg "set" = none) (ha : PE X a ta)
    (na : starEach [a] X.env = (false, eval a X.env) :: starEach [] X.env := by rfl) : PE X (.Call (.Name "len" p) [.Call (.Name "set" p2) [a] [] q] [] pos) (tLenSetE X.K ta) := by
  refine ⟨fun pins s σ H Q I h => ?_⟩
  refine Call_ (ld_blt I hg hm boot_len (PyProof.Rows.callWith_builtin1 (PyProof.Rows.args_cons ?_ rfl) rfl rfl))
  refine Call_ (ld_blt I hg2 hm2 boot_set (PyProof.Rows.callWith_type1 (PyProof.Rows.args_cons (thn (ha.run pins s σ H _ I h) fun v s1 ⟨x, H1, I1, r1, q1⟩ => PyProof.Rows.args_nil ?_) na) na rfl))
  rcases q1 with ⟨l, ks, rfl, hq, h1, q1⟩ | q1
  · cases r1
    have fin : ∀ (h' : Heap) (tk : Nat), h'.SetOf (mixKind X.prog X.w) s1.heap.objs.size (fun k' => memB k' (uniq ks)) (uniq ks).length → (∀ b o, b < s1.heap.objs.size → s1.heap.get? b = some o → h'.get? b = some o) →
        wpAny (model X.prog X.w) X.A (spliced (backTo pos (starEach [] X.env))) (fun vs s2 => wpAny (model X.prog X.w) X.A (call (.builtin "len") (Value.ref s1.heap.objs.size :: vs)) (EP X pins σ Q) X.xe s2) X.xe { s1 with heap := h', toks := tk } := fun h' tk hS hk => by
      obtain ⟨o, es, ep, t, ho, hex, hd, _, _, hb, hf, hn⟩ := hS
      have hsb : (scanBound : Int) ≤ 2 ^ 63 := by unfold scanBound; decide
      exact PyProof.Rows.args_nil (call_len_set ho hex hd hf (by omega) ⟨.int (uniq ks).length, H1, (I1.kept fun b o e => hk b o (Heap.lt_size e) e).tok _, ⟨_, by rw [hn]⟩, q1⟩)
    rcases hq with hq | hq
    · obtain ⟨its, r, pl, hz⟩ := I1.list hq
      exact call_set_listK (I1.ok.hd hc) pl.isList (by simpa using keysAre_of r) h1 fin
    · obtain ⟨its, r, pl, hz⟩ := I1.tuple hq
      exact call_set_tupleK (I1.ok.hd hc) pl (by simpa using keysAre_of r) h1 fin
  obtain ⟨l, vs, as, rfl, hq, hd, ⟨k1, k2, k3, k4⟩, q1⟩ := q1
  cases r1
  have : ∃ its : List Value, Vals vs its ∧ (s1.heap.IsList l its.toArray ∨ s1.heap.IsTuple l its.toArray) := by
    rcases hq with hq | hq
    · obtain ⟨its, r, pl, hz⟩ := I1.list hq
      exact ⟨its, r, .inl pl.isList⟩
    · obtain ⟨its, r, pl, hz⟩ := I1.tuple hq
      exact ⟨its, r, .inr pl⟩
  obtain ⟨its, rv, hl⟩ := this
  obtain ⟨az, rl⟩ := Dp.readsAll I1 as vs its hd rv
  obtain ⟨ks, e1, e2, e3⟩ := reads_refs rl k1
  have lk : ks.length = as.length := by rw [e2, List.length_map]
  refine set_data (I1.ok.hd hc) hl (by simpa using e1) (fun p hp => ⟨e3 p hp, ?_, ?_⟩) (by omega) (by omega) fun h' tk C => ?_
  · exact hasKs_mem k2 (by rw [e2]; exact List.mem_map.mpr ⟨p, hp, rfl⟩)
  · exact depth_mem k3 (by rw [e2]; exact List.mem_map.mpr ⟨p, hp, rfl⟩)
  · refine PyProof.Rows.args_nil ?_
    obtain ⟨L, es, ep, t, N, sub, len, _⟩ := C.set
    obtain ⟨o, ho, hex, hdt⟩ := N.ob
    have I2 : Inv X pins σ H1 { s1 with heap := h', toks := tk } := I1.kept C.keeps
    have sz : es.size = L.length := N.size (s := { s1 with heap := h' })
    have fw := N.few
    rw [List.take_length, ← e2] at len
    exact call_len_set ho hex hdt (N.fits (s := { s1 with heap := h' })) (by omega) ⟨.int (kSet as).length, H1, I2.tok _, ⟨_, by rw [sz, len]⟩, q1⟩
theorem qe_lenSetE {a : Expr} {ta : DE} {p p2 q pos : Pos} (hc : X.calm = true) (hu : X.A.units + 100 < cLine) (hg : Gl X "len") (hm : X.mg "len" = none) (hg2 : Gl X "set") (hm2 : X.mg "set" = none) (ha : QE X a ta)
    (na : starEach [a] X.env = (false, eval a X.env) :: starEach [] X.env := by rfl) : QE X (.Call (.Name "len" p) [.Call (.Name "set" p2) [a] [] q] [] pos) (dLenSetE ta) := pe_mono (pe_lenSetE hc hu hg hm hg2 hm2 ha na) fun τ H Q h => by
  obtain ⟨σ, G, N, R, hs, hgg, ht, q⟩ := h
  refine ⟨σ, G, N, _, hs, hgg, ht, fun x G1 N1 v1 H1 h1 s1 r1 => ?_⟩
  cases e2 : seqOf G1 x with
  | none => rw [e2] at h1; exact h1.elim
  | some ds =>
    rw [e2] at h1
    obtain ⟨p, vs, rfl, sq, r⟩ := seqOf_ok s1.rel r1 e2
    simp only [Option.bind_some] at h1
    split at h1
    · rename_i ks e
      have e3 := keysD_ok r e
      subst e3
      exact .inl ⟨p, ks, rfl, sq, h1.1, (q.le s1).at s1.rel h1.2 (RD.int _)⟩
    · split at h1
      · rename_i as e
        exact .inr ⟨p, vs, as, rfl, sq, toPys_ok r e, h1.1, (q.le s1).at s1.rel h1.2 (RD.int _)⟩
      · exact h1.elim
end
end DL

set_option Elab.async false
set_option linter.all false
set_option maxRecDepth 100000
set_option maxHeartbeats 4000000
set_option autoImplicit false
namespace DL
open PySem PySem.Spec PyProof.Rows L2
/-! ### sum(lists, start) -/
section
variable {prog : Program} {w : World} {A : Around} {R : Result → Shared → Prop} {I : Addr} {fp wr : List Addr} {G : Array GenState → Array GenState → Prop} {n : Nat} {P : Nat → Value → Prop} {St : Nat → Shared → Prop}
end
section
variable {prog : Program} {w : World} {A : Around} {E : Value → Shared → Prop} {s : Shared}
end
end DL

set_option Elab.async false
set_option linter.all false
set_option maxRecDepth 100000
set_option maxHeartbeats 4000000
set_option autoImplicit false
namespace DL
open PySem PySem.Spec PyProof.Rows L2
section
variable {X : Cx} {pins : List (Addr × Obj)} {σ : L2.St} {H : Hp} {s : Shared}
end
section
variable {X : Cx}
end
end DL

set_option Elab.async false
set_option linter.all false
set_option maxRecDepth 100000
set_option maxHeartbeats 4000000
set_option autoImplicit false
namespace DL
open PySem PySem.Spec PyProof.Rows L2
/-! ### len(set(..)), read by types -/
mutual
def kyD : D → Bool
  | .int _ => true | .str _ => true | .bl _ => true
  | .tup ds => kyDs ds
  | _ => false
def kyDs : List D → Bool
  | [] => true
  | d :: ds => kyD d && kyDs ds
end
def lenSetD (x : D) (G : Gp) (R : DK) : Prop := match (seqOf G x).bind keysD with
    | some ks => ks.length + 1 < scanBound ∧ R (.int (uniq ks).length) G
    | none => match (seqOf G x).bind toPys with | some as => okSet as ∧ R (.int (kSet as).length) G | none => False
theorem x_lenSetD {ta : DE} {σ : Sd} {G : Gp} {R : DK} : dLenSetE ta σ G R = ta σ G fun x G1 => lenSetD x G1 R := rfl
end DL

set_option Elab.async false
set_option linter.all false
set_option maxRecDepth 100000
set_option maxHeartbeats 4000000
set_option autoImplicit false
namespace DL
open PySem PySem.Spec PyProof.Rows L2
/-! ### dicts whose keys are mixed, nested data: read and written -/
section
variable {prog : Program} {w : World} {A : Around} {E : Value → Shared → Prop} {s : Shared} {d : Addr} {o : Obj} {es : Array DictEntry} {ep : Nat} {ks : List PyData} {key v : Value} {k : PyData} {as : List Addr}
end
/-! ### by data -/
def KyOk (kvs : List (D × D)) : Prop := (∀ k ∈ kvs.map (·.1), kyD k = true ∧ depD k ≤ 8) ∧ (kvs.map (·.1)).Pairwise fun p q => eqD p q = false
def ixX (kvs : List (D × D)) (k : D) : Option Nat := kvs.findIdx? fun p => eqD p.1 k
def putX (kvs : List (D × D)) (k v : D) : List (D × D) := match ixX kvs k with
  | some i => kvs.modify i fun p => (p.1, v)
  | none => kvs ++ [(k, v)]
theorem Paired.get {α β : Type} {F : α → β → Prop} : ∀ {xs : List α} {ys : List β} {i : Nat} {a : α}, Paired F xs ys → xs[i]? = some a → ∃ b, ys[i]? = some b ∧ F a b
  | _, _, _, _, .nil, e => by simp at e
  | _, _, 0, _, .cons r t, e => by simp at e; subst e; exact ⟨_, rfl, r⟩
  | _, _, i + 1, a, .cons r t, e => by
    obtain ⟨b, h1, h2⟩ := Paired.get t (i := i) (a := a) (by simpa using e)
    exact ⟨b, by simpa using h1, h2⟩
theorem Paired.modify {α β : Type} {F : α → β → Prop} {f : α → α} {g : β → β} (h : ∀ a b, F a b → F (f a) (g b)) : ∀ {xs : List α} {ys : List β} (i : Nat), Paired F xs ys → Paired F (xs.modify i f) (ys.modify i g)
  | _, _, _, .nil => by simp; exact .nil
  | _, _, 0, .cons r t => by simp; exact .cons (h _ _ r) t
  | _, _, i + 1, .cons r t => by simp; exact .cons r (Paired.modify h i t)
end DL

set_option Elab.async false
set_option linter.all false
set_option maxRecDepth 100000
set_option maxHeartbeats 4000000
set_option autoImplicit false
namespace DL
open PySem PySem.Spec PyProof.Rows L2
theorem keys_modify (kvs : List (D × D)) (v : D) : ∀ i : Nat, (kvs.modify i fun p => (p.1, v)).map (·.1) = kvs.map (·.1) := by
  induction kvs with
  | nil => intro i; simp
  | cons p kvs ih =>
    intro i
    cases i with
    | zero => simp
    | succ i => simp only [List.modify_succ_cons, List.map_cons, ih]
theorem KyOk.put {kvs : List (D × D)} (ok : KyOk kvs) {k v : D} (hk : kyD k = true) (hd : depD k ≤ 8) : KyOk (putX kvs k v) := by
  unfold putX
  split
  · unfold KyOk
    rw [keys_modify]
    exact ok
  · rename_i e
    unfold KyOk
    rw [List.map_append, List.map_singleton]
    refine ⟨fun z hz => ?_, ?_⟩
    · rcases List.mem_append.mp hz with hz | hz
      · exact ok.1 z hz
      · rw [List.mem_singleton.mp hz]; exact ⟨hk, hd⟩
    · rw [List.pairwise_append]
      refine ⟨ok.2, List.pairwise_singleton _ _, fun z hz y hy => ?_⟩
      rw [List.mem_singleton.mp hy]
      obtain ⟨p, hp, rfl⟩ := List.mem_map.mp hz
      unfold ixX at e
      rw [List.findIdx?_eq_none_iff] at e
      exact e p hp
section
variable {X : Cx} {pins : List (Addr × Obj)} {σ : L2.St} {H : Hp} {s : Shared} {N : Ns} {a : Addr} {kvs : List (D × D)} {kvs' : List (Int × V × V)}
end
end DL

set_option Elab.async false
set_option linter.all false
set_option maxRecDepth 100000
set_option maxHeartbeats 4000000
set_option autoImplicit false
namespace DL
open PySem PySem.Spec PyProof.Rows L2
/-! ### a dict display with text keys, asked at once -/
section
variable {X : Cx} {pos : Pos} {keys : List (Option Expr)} {values : List Expr}
end
end DL

set_option Elab.async false
set_option linter.all false
set_option maxRecDepth 100000
set_option maxHeartbeats 4000000
set_option autoImplicit false
namespace DL
open PySem PySem.Spec PyProof.Rows L2
/-! ### a, b, c = a list -/
def dNamesL (is : List Nat) : DG := fun d σ G R => match d with | .lst ds => ds.length = is.length ∧ R (setAll σ is ds) G | _ => False
theorem tg_namesL {K : PySem.W.Frag} {ws is : List Nat} {n : Nat} (h : ∀ i ∈ is, i ∈ ws) (hn : is.length = n) : TgOk K (gUnl K n (gNames is)) (dNamesL is) ws := fun d v σ τ H N G R Q rd rs rg h0 q => by
  unfold dNamesL at h0
  split at h0
  · rename_i ds
    obtain ⟨p, vs, rfl, sq, r⟩ := rd.of_lst
    have hl := r.length
    refine ⟨p, vs, rfl, sq.sq, by omega, gNames_ok (by omega) ?_⟩
    exact q _ _ h0.2 (RSt.setAll is rs r) (wipe_setAll h)
  · exact h0.elim
end DL

set_option Elab.async false
set_option linter.all false
set_option maxRecDepth 100000
set_option maxHeartbeats 4000000
set_option autoImplicit false
namespace DL
open PySem PySem.Spec PyProof.Rows L2
/-! ### dicts of typed keys: laws -/
section
variable {α : Type} [DecidableEq α]
variable {d : α → D} (heq : ∀ a b, eqD (d a) (d b) = decide (a = b))
include heq
variable {w : World} {G : Gp} {a : Addr} {l : List (α × Int)} {k : α}
end
/-! ### bits -/
end DL

set_option Elab.async false
set_option linter.all false
set_option maxRecDepth 100000
set_option maxHeartbeats 4000000
set_option autoImplicit false
namespace DL
open PySem PySem.Spec PyProof.Rows L2
/-! ### enumerate of a tuple -/
section
variable {prog : Program} {w : World} {A : Around} {E : Value → Shared → Prop} {s : Shared}
end
section
variable {X : Cx}
end
end DL

set_option Elab.async false
set_option linter.all false
set_option maxRecDepth 100000
set_option maxHeartbeats 4000000
set_option autoImplicit false
namespace DL
open PySem PySem.Spec PyProof.Rows L2
/-! ### a list times an int -/
variable {X : Cx}
end DL

set_option Elab.async false
set_option linter.all false
set_option maxRecDepth 100000
set_option maxHeartbeats 4000000
set_option autoImplicit false
namespace DL
open PySem PySem.Spec PyProof.Rows L2
/-! ### >= of data -/
variable {X : Cx}
end DL

set_option Elab.async false
set_option linter.all false
set_option maxRecDepth 100000
set_option maxHeartbeats 4000000
set_option autoImplicit false
namespace DL
open PySem PySem.Spec PyProof.Rows L2
/-! ### split, int of a text, statements that are never reached -/
variable {X : Cx}
def dIntS : DRn := fun cs G R => match cs with
  | [.str z] => (match PySem.intText? z with | some n => z.length ≤ 640 ∧ R (.int n) G | none => False)
  | _ => False
theorem cd_intS : CallD X (.type "int") dIntS := up_rn call_int_str fun cs G N R xs H Q rd rg h q => by
  unfold dIntS at h
  split at h
  · rename_i z
    obtain ⟨v, r, rfl, r1, r2⟩ := rd.of_cons
    rw [r2.of_nil, r1.of_str]
    split at h
    · rename_i n e
      exact ⟨z, n, rfl, e, h.1, q.at rg h.2 (RD.int _)⟩
    · exact h.elim
  · exact h.elim
theorem intS_go {z : Str} {n : Int} {G : Gp} {R : DK} (e : PySem.intText? z = some n) (hl : z.length ≤ 640) (k : R (.int n) G) : dIntS [.str z] G R := by
  unfold dIntS
  simp only [e]
  exact ⟨hl, k⟩
/-! ### texts taken apart -/
theorem int_num : ∀ k : Fin 301, PySem.intText? (toString ((k.val : Nat) : Int)) = some ((k.val : Nat) : Int) := by decide +kernel
end DL

set_option Elab.async false
set_option linter.all false
set_option maxRecDepth 100000
set_option maxHeartbeats 4000000
set_option autoImplicit false
namespace DL
open PySem PySem.Spec PyProof.Rows L2
/-! ### a list's slice with a step -/
theorem RDs.pick {K : PySem.W.Frag} {H : Hp} {N : Ns} {ds : List D} {vs : List V} (r : RDs K H N ds vs) : ∀ is : List Nat, RDs K H N (is.filterMap (ds[·]?)) (is.filterMap (vs[·]?))
  | [] => RDs.nil
  | i :: is => by
    rw [List.filterMap_cons, List.filterMap_cons]
    have ih := RDs.pick r is
    cases e : ds[i]? with
    | some d =>
      obtain ⟨v, hv, rv⟩ := r.get e
      rw [hv]
      exact RDs.cons rv ih
    | none =>
      have : vs[i]? = none := by rw [List.getElem?_eq_none_iff] at e ⊢; rw [← r.length]; exact e
      rw [this]
      exact ih
section
variable {X : Cx} {e : Expr} {lo hi st : Option Expr} {p3 pos : Pos}
/-- xs.extend(ys), both known -/
def dExtend : D → List D → Gp → DK → Prop := fun x xs G R => match x, xs with
  | .ref a, [.ref b] => (match G a, G b with | some (.lst ds), some (.lst es) => ds.length + es.length ≤ sizeLine ∧ R .non (gup G a (.lst (ds ++ es))) | _, _ => False)
  | _, _ => False
theorem md_extend : MtD X "list.extend" dExtend := md_of (rv := rExtend) (fun pins s σ H x xs v us Q I rx rxs q => mt_extend pins s σ H x xs v us Q I rx rxs q) fun c cs G N R x xs H Q r0 r1 rg h q => by
  unfold dExtend at h
  split at h
  · rename_i a b
    obtain rfl := r0.of_ref
    obtain ⟨v, r, rfl, rv, rr⟩ := r1.of_cons
    rw [rr.of_nil, rv.of_ref]
    split at h
    · rename_i ds es ea eb
      obtain ⟨_, vs, hv, rd⟩ := rg a _ ea
      obtain ⟨_, us, hu, re⟩ := rg b _ eb
      have h1 := rd.length
      have h2 := re.length
      exact ⟨a, b, vs, us, rfl, rfl, hv, hu, by omega, q.wr rg ea hv (rd.append re) RD.non h.2⟩
    · exact h.elim
  · exact h.elim
theorem ext_go {a b : Addr} {ds es : List D} {G : Gp} {R : DK} (ea : G a = some (.lst ds)) (eb : G b = some (.lst es)) (hl : ds.length + es.length ≤ sizeLine) (k : R .non (gup G a (.lst (ds ++ es)))) : dExtend (.ref a) [.ref b] G R := by
  unfold dExtend
  simp only [ea, eb]
  exact ⟨hl, k⟩
end
end DL

set_option Elab.async false
set_option linter.all false
set_option maxRecDepth 100000
set_option maxHeartbeats 4000000
set_option autoImplicit false
namespace DL
open PySem PySem.Spec PyProof.Rows L2
/-! ### words for readings that many laws share -/
theorem lc_typ {α : Type} {g : DG} {te : DE} {σ : Sd} {gd : Gp → Prop} {G : Gp} (d f : α → D) (hg : gd G) : ∀ (xs : List α) (acc : List D), (∀ x ∈ xs, ∀ Q : DK, Q (f x) G → g (d x) σ G fun σ2 G2 => te σ2 G2 Q) → ∀ Q : List D → Gp → Prop, Q (acc ++ xs.map f) G → dLcGo g dYes te gd σ (xs.map d) acc G Q
  | [], acc, _, Q, q => ⟨hg, by simpa using q⟩
  | x :: xs, acc, h, Q, q => ⟨hg, h x List.mem_cons_self _ (lc_typ d f hg xs (acc ++ [f x]) (fun y hy => h y (List.mem_cons_of_mem _ hy)) Q (by simpa using q))⟩
theorem all_typ {α : Type} {g : DG} {te : DE} {σ : Sd} {gd : Gp → Prop} {G : Gp} (d : α → D) (f : α → Bool) (hg : gd G) (xs : List α) (h : ∀ x ∈ xs, ∀ Q : DK, Q (.bl (f x)) G → g (d x) σ G fun σ2 G2 => te σ2 G2 Q) {Q : DK} (q : Q (.bl (xs.all f)) G) : dLcGo g dYes te gd σ (xs.map d) [] G fun ds G2 => dAll [.lst ds] G2 Q := by
  refine lc_typ d (fun x => .bl (f x)) hg xs [] h _ ?_
  have e : [] ++ xs.map (fun x => D.bl (f x)) = (xs.map f).map D.bl := by simp
  rw [e, all_lst, List.all_map]
  exact q
theorem py_str {z : Str} : pyD (.str z) = true ↔ ∀ c ∈ cds z, c < 1114112 := by
  simp only [pyD, List.all_eq_true, decide_eq_true_eq, cds]
theorem py_of (s : String) : pyD (.str (Str.ofString s)) = true := by
  rw [py_str]
  intro c hc
  rw [Str.ofString_eq_toList] at hc
  have hc : c ∈ s.toList.map Char.toNat := by simpa [cds] using hc
  rw [List.mem_map] at hc
  obtain ⟨x, _, rfl⟩ := hc
  have := x.valid
  unfold Char.toNat
  simp only [UInt32.isValidChar, Nat.isValidChar] at this
  show x.val.toNat < 1114112
  omega
theorem py_app {a b : Str} (h1 : pyD (.str a) = true) (h2 : pyD (.str b) = true) : pyD (.str (a ++ b)) = true := by
  rw [py_str] at *
  rw [cds_app]
  intro c hc
  rcases List.mem_append.mp hc with hc | hc
  · exact h1 c hc
  · exact h2 c hc
theorem py_join {sep : Str} (h : pyD (.str sep) = true) : ∀ {zs : List Str}, (∀ z ∈ zs, pyD (.str z) = true) → pyD (.str (Txt.join sep zs)) = true := by
  intro zs hz
  rw [py_str, cds_join]
  intro c hc
  obtain ⟨l, hl, hc⟩ := List.mem_flatten.mp hc
  have key : ∀ (ls : List (List Nat)) (s l : List Nat), l ∈ ls.intersperse s → l = s ∨ l ∈ ls := by
    intro ls s l
    induction ls with
    | nil => intro h; cases h
    | cons a ls ih =>
      cases ls with
      | nil => intro h; exact .inr (by simpa using h)
      | cons b ls =>
        intro h
        rw [List.intersperse_cons₂] at h
        rcases List.mem_cons.mp h with h | h
        · exact .inr (by simp [h])
        · rcases List.mem_cons.mp h with h | h
          · exact .inl h
          · rcases ih h with h | h
            · exact .inl h
            · exact .inr (List.mem_cons_of_mem _ h)
  rcases key _ _ _ hl with rfl | hl
  · exact py_str.mp h c hc
  · obtain ⟨z, hz2, rfl⟩ := List.mem_map.mp hl
    exact py_str.mp (hz z hz2) c hc
end DL

set_option Elab.async false
set_option linter.all false
set_option maxRecDepth 100000
set_option maxHeartbeats 4000000
set_option autoImplicit false
namespace DL
open PySem PySem.Spec PyProof.Rows L2
/-! ### list(range(n)), tuple(range(n)) -/
section
variable {X : Cx} {a : Expr} {ta : DE} {p p2 pos pos2 : Pos}
end
/-! ### d.get(k, e) of a dict of nested keys -/
section
variable {X : Cx}
variable {o e : Expr} {es : List Expr} {to : DE} {t : DA} {name : Str} {apos cpos : Pos} {id : String} {r : D → List D → Gp → DK → Prop}
end
/-! ### dicts of typed keys and typed values -/
section
variable {α β : Type} [DecidableEq α]
variable {d : α → D} {v : β → D} (heq : ∀ a b, eqD (d a) (d b) = decide (a = b))
include heq
variable {w : World} {G : Gp} {a : Addr} {l : List (α × β)} {k : α}
end
end DL

set_option Elab.async false
set_option linter.all false
set_option maxRecDepth 100000
set_option maxHeartbeats 4000000
set_option autoImplicit false
namespace DL
open PySem PySem.Spec PyProof.Rows L2
/-! ### sum, max, min of a list of ints -/
section
variable {X : Cx}
end
theorem inon_n : isNon .non = true := rfl
theorem inon_i {i : Int} : isNon (.int i) = false := rfl
theorem inon_s {i : Str} : isNon (.str i) = false := rfl
theorem inon_b {i : Bool} : isNon (.bl i) = false := rfl
theorem inon_t {i : List D} : isNon (.tup i) = false := rfl
theorem inon_l {i : List D} : isNon (.lst i) = false := rfl
theorem inon_r {i : Addr} : isNon (.ref i) = false := rfl
/-- a loop over typed things, by an invariant that tells how many are done -/
theorem for_typ {α : Type} {g : DG} {tb : DS} {gd : Gp → Prop} {E : DEnds} (d : α → D) (xs : List α) (I : Nat → Sd → Gp → Prop) (hgd : ∀ k σ G, I k σ G → gd G)
    (turn : ∀ (k : Nat) (x : α) (σ : Sd) (G : Gp), xs[k]? = some x → I k σ G → ∀ N : Sd → Gp → Prop, (∀ σ' G', I (k + 1) σ' G' → N σ' G') → g (d x) σ G fun σ2 G2 => tb { E with nx := N, ct := N, bk := E.nx } σ2 G2)
    (fin : ∀ σ G, I xs.length σ G → E.nx σ G) (σ : Sd) (G : Gp) (h : I 0 σ G) : dForGo g tb gd E (xs.map d) σ G := by
  have key : ∀ (m k : Nat) (σ : Sd) (G : Gp), xs.length - k = m → k ≤ xs.length → I k σ G → dForGo g tb gd E ((xs.drop k).map d) σ G := by
    intro m
    induction m with
    | zero =>
      intro k σ G hm hk i
      have e : k = xs.length := by omega
      subst e
      rw [List.drop_length]
      exact ⟨hgd _ _ _ i, fin σ G i⟩
    | succ m ih =>
      intro k σ G hm hk i
      have hlt : k < xs.length := by omega
      rw [List.drop_eq_getElem_cons hlt, List.map_cons]
      exact ⟨hgd _ _ _ i, turn k xs[k] σ G (List.getElem?_eq_getElem hlt) i _ fun σ' G' i' => ih (k + 1) σ' G' (by omega) (by omega) i'⟩
  have := key xs.length 0 σ G (by omega) (by omega) h
  rwa [List.drop_zero] at this
theorem for_rng {g : DG} {tb : DS} {E : DEnds} (n : Nat) (I : Nat → Sd → Gp → Prop)
    (turn : ∀ (k : Nat) (σ : Sd) (G : Gp), k < n → I k σ G → ∀ N : Sd → Gp → Prop, (∀ σ' G', I (k + 1) σ' G' → N σ' G') → g (.int (k : Nat)) σ G fun σ2 G2 => tb { E with nx := N, ct := N, bk := E.nx } σ2 G2)
    (fin : ∀ σ G, I n σ G → E.nx σ G) (σ : Sd) (G : Gp) (h : I 0 σ G) : dForGo g tb (fun _ => True) E (rng 0 n) σ G := by
  have e : rng 0 n = (List.range n).map fun i => D.int (i : Nat) := by unfold rng; exact List.map_congr_left fun i _ => by rw [Int.zero_add]
  rw [e]
  refine for_typ (fun i : Nat => D.int (i : Nat)) (List.range n) I (fun _ _ _ _ => trivial) (fun k x σ G hx i N hN => ?_) (fun σ G i => fin σ G (by rw [List.length_range] at i; exact i)) σ G h
  have hk := (List.getElem?_eq_some_iff.mp hx).1
  rw [List.length_range] at hk
  rw [List.getElem?_range hk] at hx
  cases hx
  exact turn k σ G hk i N hN
theorem rt_sub {R : DK} {d : D} {G G0 : Gp} (s : Sub G0 G) (h : R d G0) : Rt R d G := ret_sub s h
theorem Sub.put {G G' : Gp} {p : Addr} {o : GO} (s : Sub G G') (h : G p = none) : Sub G (gup G' p o) := fun a u e => by rw [gup_ne (gne e h)]; exact s a u e
theorem pyDs_strs : ∀ {zs : List Str}, (∀ y ∈ zs, pyD (.str y) = true) → pyDs (zs.map .str) = true
  | [], _ => rfl
  | z :: zs, h => by
    simp only [List.map_cons, pyDs, Bool.and_eq_true]
    exact ⟨h z List.mem_cons_self, pyDs_strs fun y hy => h y (List.mem_cons_of_mem _ hy)⟩
theorem any_strs (z : Str) (zs : List Str) : ((zs.map D.str).any fun y => eqD y (.str z)) = decide (z ∈ zs) := by
  rw [Bool.eq_iff_iff, List.any_eq_true, decide_eq_true_eq]
  constructor
  · rintro ⟨y, hy, h⟩
    obtain ⟨x, hx, rfl⟩ := List.mem_map.mp hy
    have : x = z := by simpa [eqD] using h
    exact this ▸ hx
  · intro h
    exact ⟨.str z, List.mem_map.mpr ⟨z, h, rfl⟩, by simp [eqD]⟩
theorem inE_tupS {f : Bool → Bool} {z : Str} {zs : List Str} {G : Gp} {R : DK} (hz : pyD (.str z) = true) (hs : ∀ y ∈ zs, pyD (.str y) = true) (k : R (.bl (f (decide (z ∈ zs)))) G) : dInE f (.str z) (.tup (zs.map .str)) G R :=
  ⟨hz, pyDs_strs hs, by simp [depD], by rw [any_strs]; exact k⟩
theorem inE_lstS {f : Bool → Bool} {z : Str} {zs : List Str} {G : Gp} {R : DK} (hz : pyD (.str z) = true) (hs : ∀ y ∈ zs, pyD (.str y) = true) (k : R (.bl (f (decide (z ∈ zs)))) G) : dInE f (.str z) (.lst (zs.map .str)) G R :=
  ⟨hz, pyDs_strs hs, by simp [depD], by rw [any_strs]; exact k⟩
end DL

set_option Elab.async false
set_option linter.all false
set_option maxRecDepth 100000
set_option maxHeartbeats 4000000
set_option autoImplicit false
namespace DL
open PySem PySem.Spec PyProof.Rows L2
/-! ### lists that are known, added -/
end DL

set_option Elab.async false
set_option linter.all false
set_option maxRecDepth 100000
set_option maxHeartbeats 4000000
set_option autoImplicit false
namespace DL
open PySem PySem.Spec PyProof.Rows L2
theorem rt_keep {R : DK} {d : D} {G : Gp} {s p : Addr} {o u : GO} (h : s ≠ p) (hp : G p = none) (k : R d (gup G s o)) : Rt R d (gup (gup G p u) s o) := ret_sub (sub_keep h hp) k
/-! ### {..}.get(e, f) -/
section
variable {X : Cx} {pos : Pos} {keys : List (Option Expr)} {values : List Expr}
end
end DL

set_option Elab.async false
set_option linter.all false
set_option maxRecDepth 100000
set_option maxHeartbeats 4000000
set_option autoImplicit false
namespace DL
open PySem PySem.Spec PyProof.Rows L2
/-! ### a, b = x, y and a, b, c = x, y, z -/
section
variable {X : Cx} {pos : Pos}
def dPar (is : List Nat) (t : DA) : DS := fun E σ G => t σ G fun ds G1 => ds.length = is.length ∧ E.nx (setAll σ is ds) G1
theorem x_par {is : List Nat} {t : DA} {E : DEnds} {σ : Sd} {G : Gp} : dPar is t E σ G = t σ G fun ds G1 => ds.length = is.length ∧ E.nx (setAll σ is ds) G1 := rfl
end
end DL

set_option Elab.async false
set_option linter.all false
set_option maxRecDepth 100000
set_option maxHeartbeats 4000000
set_option autoImplicit false
namespace DL
open PySem PySem.Spec PyProof.Rows L2
/-! ### all that was known is known still, but for one thing -/
def Ext (s : Addr) (G G' : Gp) : Prop := ∀ a o, a ≠ s → G a = some o → G' a = some o
section
variable {s p : Addr} {G G' : Gp} {o u : GO} {R : DK} {d : D}
theorem Ext.refl (s : Addr) (G : Gp) : Ext s G G := fun _ _ _ h => h
theorem Ext.self (h : Ext s G G') : Ext s G (gup G' s o) := fun a u n e => by rw [gup_ne n]; exact h a u n e
theorem Ext.put (h : Ext s G G') (hp : G p = none) : Ext s G (gup G' p o) := fun a u n e => by rw [gup_ne (gne e hp)]; exact h a u n e
theorem Ext.new (h : Ext s G G') (hp : G' p = none) (hs : s ≠ p) : Ext s G (gup G' p o) := fun a u n e => by
  have := h a u n e
  rw [gup_ne (fun z => by rw [z, hp] at this; cases this)]; exact this
theorem Ext.sub (h : Ext s G G') (e : G' s = some o) : Sub (gup G s o) G' := fun a u ea => by
  by_cases z : a = s
  · subst z; rw [gup_same] at ea; cases ea; exact e
  · rw [gup_ne z] at ea; exact h a u z ea
theorem Ext.nn (h : Ext s G G') (n : p ≠ s) (hp : G' p = none) : G p = none := by
  cases e : G p with
  | none => rfl
  | some u => rw [h p u n e] at hp; cases hp
theorem rt_ext (h : Ext s G G') (e : G' s = some o) (k : R d (gup G s o)) : Rt R d G' := ret_sub (h.sub e) k
theorem fr_ne (e : G' s = some o) (hp : G' p = none) : s ≠ p := fun z => by subst z; rw [e] at hp; cases hp
end
theorem for_lst {α : Type} {g : DG} {tb : DS} {E : DEnds} (d : α → D) (xs : List α) (I : Nat → Sd → Gp → Prop)
    (turn : ∀ (k : Nat) (x : α) (σ : Sd) (G : Gp), xs[k]? = some x → I k σ G → ∀ N : Sd → Gp → Prop, (∀ σ' G', I (k + 1) σ' G' → N σ' G') → g (d x) σ G fun σ2 G2 => tb { E with nx := N, ct := N, bk := E.nx } σ2 G2)
    (fin : ∀ σ G, I xs.length σ G → E.nx σ G) (σ : Sd) (G : Gp) (h : I 0 σ G) : dForGo g tb (fun _ => True) E (xs.map d) σ G := for_typ d xs I (fun _ _ _ _ => trivial) turn fin σ G h
end DL

set_option Elab.async false
set_option linter.all false
set_option maxRecDepth 100000
set_option maxHeartbeats 4000000
set_option autoImplicit false
namespace DL
open PySem PySem.Spec PyProof.Rows L2
/-! ### loops over enumerate, by an invariant that tells how many are done -/
end DL

set_option Elab.async false
set_option linter.all false
set_option maxRecDepth 100000
set_option maxHeartbeats 4000000
set_option autoImplicit false
namespace DL
open PySem PySem.Spec PyProof.Rows L2
/-! ### is, is not of truths -/
section
variable {X : Cx}
end
end DL

set_option Elab.async false
set_option linter.all false
set_option maxRecDepth 100000
set_option maxHeartbeats 4000000
set_option autoImplicit false
namespace DL
open PySem PySem.Spec PyProof.Rows L2
section
variable {X : Cx}
/-! ### max of three, max with a default -/
end
end DL

set_option Elab.async false
set_option linter.all false
set_option maxRecDepth 100000
set_option maxHeartbeats 4000000
set_option autoImplicit false
namespace DL
open PySem PySem.Spec PyProof.Rows L2
/-! ### instances: attributes, methods, making -/
def putD (f : Str) (d : D) : List (Str × D) → List (Str × D)
  | [] => [(f, d)]
  | (g, x) :: r => if g = f then (g, d) :: r else (g, x) :: putD f d r
theorem rkv_look {K : PySem.W.Frag} {H : Hp} {N : Ns} {f : Str} : ∀ {fs : List (Str × D)} {vs : List (Str × V)}, RKV K H N fs vs → (∀ d, fs.lookup f = some d → ∃ v, vs.lookup f = some v ∧ RD K H N d v) ∧ (fs.lookup f = none → vs.lookup f = none)
  | _, _, .nil => ⟨fun d h => (by cases h), fun _ => rfl⟩
  | (g, d) :: fs, (g', v) :: vs, .cons h t => by
    obtain ⟨e, r⟩ := h
    have e : g = g' := e
    subst e
    have ih := rkv_look (f := f) t
    rw [List.lookup_cons, List.lookup_cons]
    cases c : f == g
    · exact ih
    · exact ⟨fun d' h => by cases h; exact ⟨v, rfl, r⟩, fun h => (by cases h)⟩
theorem rkv_put {K : PySem.W.Frag} {H : Hp} {N : Ns} {f : Str} {d : D} {v : V} (r : RD K H N d v) : ∀ {fs : List (Str × D)} {vs : List (Str × V)}, RKV K H N fs vs → RKV K H N (putD f d fs) (putF f v vs)
  | _, _, .nil => .cons ⟨rfl, r⟩ .nil
  | (g, d) :: fs, (g', v) :: vs, .cons h t => by
    obtain ⟨e, r'⟩ := h
    have e : g = g' := e
    subst e
    unfold putD putF
    by_cases c : g = f
    · rw [if_pos c, if_pos c]; exact .cons ⟨rfl, r⟩ t
    · rw [if_neg c, if_neg c]; exact .cons ⟨rfl, r'⟩ (rkv_put r t)
theorem rkv_len {K : PySem.W.Frag} {H : Hp} {N : Ns} : ∀ {fs : List (Str × D)} {vs : List (Str × V)}, RKV K H N fs vs → fs.length = vs.length
  | _, _, .nil => rfl
  | _ :: _, _ :: _, .cons _ t => by rw [List.length_cons, List.length_cons, rkv_len t]
section
variable {X : Cx} {C : Addr} {f m : Str} {e o value : Expr} {es : List Expr} {pos pos' apos p : Pos} {ta tv : DE} {t : DA} {x : Str} {k : Nat} {g : Addr} {fd : FuncData} {ps : List Str} {sp : DSp}
def dFld (C : Addr) (f : Str) (ta : DE) : DE := fun σ G R => ta σ G fun x G1 => ∃ a dx fs d, x = .ref a ∧ G1 a = some (.ins C dx fs) ∧ fs.lookup f = some d ∧ R d G1
theorem qe_fld (c : Cls X.K C) (n : NoAttr X.K C f) (he : QE X e ta) (hb : attributeBase e f X.env (eval e X.env) = eval e X.env := by rfl) : QE X (.Attribute e f pos) (dFld C f ta) :=
  pe_mono (pe_fld he hb) fun τ H Q h => by
    obtain ⟨σ, G, N, R, hs, hg, ht, q⟩ := h
    refine ⟨σ, G, N, _, hs, hg, ht, fun x G1 N1 v1 H1 h1 s1 r1 => ?_⟩
    obtain ⟨a, dx, fs, d, rfl, ea, l, h2⟩ := h1
    obtain rfl := r1.of_ref
    obtain ⟨hN, fs', e', rkv⟩ := s1.rel a _ ea
    obtain ⟨v, l', rd⟩ := (rkv_look rkv).1 d l
    exact ⟨a, C, dx, fs', v, rfl, e', c, n, l', (q.le s1).at s1.rel h2 rd⟩
theorem x_fld {σ : Sd} {G : Gp} {R : DK} : dFld C f ta σ G R = ta σ G fun x G1 => ∃ a dx fs d, x = .ref a ∧ G1 a = some (.ins C dx fs) ∧ fs.lookup f = some d ∧ R d G1 := rfl
theorem ins_write {K : PySem.W.Frag} {H : Hp} {N : Ns} {G : Gp} {a dx : Addr} {fs : List (Str × D)} {d : D} {v : V} (rg : RelG K H N G) (ea : G a = some (.ins C dx fs)) (rd : RD K H N d v) : ∃ fs', H a = some (.ins C dx fs') ∧ fs'.length = fs.length ∧ Stp K H N G (upd H a (.ins C dx (putF f v fs'))) N (gup G a (.ins C dx (putD f d fs))) := by
  obtain ⟨hN, fs', e', rkv⟩ := rg a _ ea
  refine ⟨fs', e', (rkv_len rkv).symm, Stp.write rg ea e' rfl rfl ⟨_, upd_same, ?_⟩⟩
  exact (rkv_put rd rkv).le (Kp.write (u := .ins C dx (putF f v fs')) hN e' rfl rfl)
def dFldS (C : Addr) (f : Str) (tv ta : DE) : DS := fun E σ G => tv σ G fun y G1 => ta σ G1 fun x G2 => ∃ a dx fs, x = .ref a ∧ G2 a = some (.ins C dx fs) ∧ fs.length < 1000 ∧ E.nx σ (gup G2 a (.ins C dx (putD f y fs)))
theorem qs_fld (c : Cls X.K C) (n : NoAttr X.K C f) (ha : QE X o ta) (hv : QE X value tv) (hs : swapsWith value (some (.Attribute o f pos')) pos.line X.env = pure false := by rfl) : QS X (.Assign [.Attribute o f pos'] value pos) (dFldS C f tv ta) :=
  ps_mono (ps_fld ha hv hs) fun D τ H h => by
    obtain ⟨σ, G, N, E, rs, rg, ht, u⟩ := h
    refine ⟨σ, G, N, _, rs, rg, ht, fun y G1 N1 v1 H1 h1 s1 r1 => ?_⟩
    refine ⟨σ, G1, N1, _, rs.le s1.kp, s1.rel, h1, fun x G2 N2 v2 H2 h2 s2 r2 => ?_⟩
    obtain ⟨a, dx, fs, rfl, ea, hl, h3⟩ := h2
    obtain rfl := r2.of_ref
    obtain ⟨fs', e', hl', st⟩ := ins_write (f := f) s2.rel ea (r1.le s2.kp)
    exact ⟨a, C, dx, fs', rfl, e', c, n, by omega, u.nx _ _ _ _ _ h3 ((s1.trans s2).trans st) ((rs.le (s1.trans s2).kp).le st.kp)⟩
theorem x_fldS {E : DEnds} {σ : Sd} {G : Gp} : dFldS C f tv ta E σ G = tv σ G fun y G1 => ta σ G1 fun x G2 => ∃ a dx fs, x = .ref a ∧ G2 a = some (.ins C dx fs) ∧ fs.length < 1000 ∧ E.nx σ (gup G2 a (.ins C dx (putD f y fs))) := rfl
/-- o.m(..) -/
def dMeth (C : Addr) (m : Str) (sp : DSp) (ta : DE) (t : DA) : DE := fun σ G R => ta σ G fun x G1 => ∃ a dx fs, x = .ref a ∧ G1 a = some (.ins C dx fs) ∧ fs.lookup m = none ∧ t σ G1 fun ds G2 => sp (x :: ds) G2 R
theorem up_meth {K : PySem.W.Frag} {τ : L2.St} {H : Hp} {Q : VK} (h : up K (dMeth C m sp ta t) τ H Q) : tMeth C m (upSp K sp) [] E0 (up K ta) (upA K t) τ H Q := by
  obtain ⟨σ, G, N, R, hs, hg, ht, q⟩ := h
  refine ⟨σ, G, N, _, hs, hg, ht, fun x G1 N1 v1 H1 h1 s1 r1 => ?_⟩
  obtain ⟨a, dx, fs, rfl, ea, l, h2⟩ := h1
  obtain rfl := r1.of_ref
  obtain ⟨hN, fs', e', rkv⟩ := s1.rel a _ ea
  refine ⟨a, dx, fs', rfl, e', (rkv_look rkv).2 l, σ, G1, N1, _, hs.le s1.kp, s1.rel, h2, fun ds G2 N2 vs H2 h3 s2 r2 => ?_⟩
  show upSp K sp (.ref a :: (vs ++ [])) H2 Q E0
  rw [List.append_nil]
  exact ⟨.ref a :: ds, G2, N2, R, RDs.cons (RD.ref a) r2, s2.rel, h3, q.le (s1.trans s2)⟩
def MethEq (X : Cx) (o : Expr) (m : Str) (apos : Pos) (es : List Expr) (pos : Pos) (pl : Sem Bool) : Prop := eval (.Call (.Attribute o m apos) es [] pos) X.env = (do let ov ← eval o X.env; standAt apos.atName; let (f, first) ← holding [ov] (getMethod ov m pl); callWith pos f first (backTo pos (starEach es X.env)) (backToKw pos (keywordEach [] X.env)))
theorem qe_meth {pl : Sem Bool} (he : QE X o ta) (c : Cls X.K C) (hm : Meth X.K C m g) (F : FnD X.prog X.w X.K X.mg X.base k g fd ps sp) (hr : Room k X.A) (hb : Binds X.K fd ps []) (ha : QA X (e :: es) t)
    (hst : starEach (e :: es) X.env = (false, eval e X.env) :: starEach es X.env := by rfl) (hpl : (backTo pos (starEach es X.env)).any (·.1) = false := by rfl)
    (ht : MethEq X o m apos (e :: es) pos pl := by exact rfl) :
    QE X (.Call (.Attribute o m apos) (e :: es) [] pos) (dMeth C m sp ta t) := pe_mono (pe_meth he c hm F hr hb .nil pass0 ha hst hpl ht) fun τ H Q h => up_meth h
theorem x_meth {σ : Sd} {G : Gp} {R : DK} : dMeth C m sp ta t σ G R = ta σ G fun x G1 => ∃ a dx fs, x = .ref a ∧ G1 a = some (.ins C dx fs) ∧ fs.lookup m = none ∧ t σ G1 fun ds G2 => sp (x :: ds) G2 R := rfl
/-- C(..) -/
def dMake (C : Addr) (sp : DSp) (t : DA) : DE := fun σ G R => t σ G fun ds G1 => ∀ x dx, G1 x = none → sp (.ref x :: ds) (gup G1 x (.ins C dx [])) fun v G2 => v = .non ∧ R (.ref x) G2
theorem qe_make (M : Mk X.K C g) (F : FnD X.prog X.w X.K X.mg X.base k g fd ps sp) (hr : Room (k + 1) X.A) (hg : Gl X x) (hm : X.mg x = some (.ref C)) (hb : Binds X.K fd ps []) (ha : QA X (e :: es) t)
    (hdb : (x == ("__debug__" : Str)) = false := by decide) (he : starEach (e :: es) X.env = (false, eval e X.env) :: starEach es X.env := by rfl) (hpl : (backTo pos (starEach es X.env)).any (·.1) = false := by rfl) :
    QE X (.Call (.Name x p) (e :: es) [] pos) (dMake C sp t) := pe_mono (pe_make M F hr hg hm hb .nil pass0 ha hdb he hpl) fun τ H Q h => by
  obtain ⟨σ, G, N, R, hs, hg, ht, q⟩ := h
  refine ⟨σ, G, N, _, hs, hg, ht, fun ds G1 N1 vs H1 h1 s1 r1 y dy ny ndy ne => ?_⟩
  have a1 : Stp X.K H1 N1 G1 (upd H1 dy (.own y)) N1 G1 := Stp.new0 s1.rel ndy
  have ny' : upd H1 dy (.own y) y = none := by rw [upd_ne ne.symm]; exact ny
  have a2 : Stp X.K (upd H1 dy (.own y)) N1 G1 (upd (upd H1 dy (.own y)) y (.ins C dy [])) (nadd N1 y) (gup G1 y (.ins C dy [])) := Stp.new a1.rel ny' ⟨[], upd_same, .nil⟩
  have a3 := a1.trans a2
  show upSp X.K sp (.ref y :: (vs ++ [])) _ _ E0
  rw [List.append_nil]
  refine ⟨.ref y :: ds, gup G1 y (.ins C dy []), nadd N1 y, _, RDs.cons (RD.ref y) (r1.le a3.kp), a3.rel, h1 y dy (s1.rel.free ny), fun d G' N' v H' h2 s2 rd => ?_⟩
  obtain ⟨rfl, h2⟩ := h2
  exact ⟨rd.of_non, q _ _ _ _ _ h2 ((s1.trans a3).trans s2) (RD.ref y)⟩
theorem x_make {σ : Sd} {G : Gp} {R : DK} : dMake C sp t σ G R = t σ G fun ds G1 => ∀ x dx, G1 x = none → sp (.ref x :: ds) (gup G1 x (.ins C dx [])) fun v G2 => v = .non ∧ R (.ref x) G2 := rfl
/-- o.f op= value -/
def dFldAug (C : Addr) (f : Str) (ta tv : DE) (r : DR2) : DS := fun E σ G => ta σ G fun x G1 => ∃ a dx fs d, x = .ref a ∧ G1 a = some (.ins C dx fs) ∧ fs.lookup f = some d ∧ tv σ G1 fun y G2 => r d y G2 fun z G3 => ∃ dx' fs', G3 a = some (.ins C dx' fs') ∧ fs'.length < 1000 ∧ E.nx σ (gup G3 a (.ins C dx' (putD f z fs')))
theorem x_fldAug {r : DR2} {E : DEnds} {σ : Sd} {G : Gp} : dFldAug C f ta tv r E σ G = ta σ G fun x G1 => ∃ a dx fs d, x = .ref a ∧ G1 a = some (.ins C dx fs) ∧ fs.lookup f = some d ∧ tv σ G1 fun y G2 => r d y G2 fun z G3 => ∃ dx' fs', G3 a = some (.ins C dx' fs') ∧ fs'.length < 1000 ∧ E.nx σ (gup G3 a (.ins C dx' (putD f z fs'))) := rfl
end
end DL

set_option Elab.async false
set_option linter.all false
set_option maxRecDepth 100000
set_option maxHeartbeats 4000000
set_option autoImplicit false
namespace DL
open PySem PySem.Spec PyProof.Rows L2
/-! ### list(it): what an iterator gives, laid in a new list -/
section
variable {X : Cx} {pins : List (Addr × Obj)} {σ : L2.St} {H : Hp}
/-- an address of ours -/
structure Yg (X : Cx) (pins : List (Addr × Obj)) (b : Addr) : Prop where
  l : b ≠ X.env.locals
  f : b ∉ X.fs
  y : b ∈ X.ex ∨ X.s_0.heap.objs.size ≤ b
  c : ∀ x c, X.env.cells.lookup x = some c → c ≠ b
  p : ∀ p ∈ X.pn ++ pins, p.1 ≠ b
theorem Yg.fp {b : Addr} {H : Hp} (h : Yg X pins b) (n : H b = none) : FpOk X pins H b := ⟨n, h.l, h.f, h.y, h.c, h.p⟩
theorem Yg.cons {b S : Addr} {o : Obj} (h : Yg X pins b) (n : S ≠ b) : Yg X ((S, o) :: pins) b := ⟨h.l, h.f, h.y, h.c, fun p hp => by
  rcases List.mem_append.mp hp with hp | hp
  · exact h.p p (List.mem_append_left _ hp)
  · rcases List.mem_cons.mp hp with rfl | hp
    · exact n
    · exact h.p p (List.mem_append_right _ hp)⟩
/-! ### enumerate of a list -/
variable {a : Expr} {p p2 pos pos2 : Pos}
end
end DL

set_option Elab.async false
set_option linter.all false
set_option maxRecDepth 100000
set_option maxHeartbeats 4000000
set_option autoImplicit false
namespace DL
open PySem PySem.Spec PyProof.Rows L2
/-! ### dicts with texts and numbers as keys, kept -/
section
variable {X : Cx} {pos : Pos} {keys : List (Option Expr)} {values : List Expr}
end
end DL

set_option Elab.async false
set_option linter.all false
set_option maxRecDepth 100000
set_option maxHeartbeats 4000000
set_option autoImplicit false
namespace DL
open PySem PySem.Spec PyProof.Rows L2
/-! ### sum(list, ()) of one tuple at most -/
section
variable {prog : Program} {w : World} {A : Around} {E : Value → Shared → Prop} {s : Shared}
end
section
variable {X : Cx}
end
end DL

set_option Elab.async false
set_option linter.all false
set_option maxRecDepth 100000
set_option maxHeartbeats 4000000
set_option autoImplicit false
namespace DL
open PySem PySem.Spec PyProof.Rows L2
/-! ### sorted(xs) of tuples (number, text, more), told apart by the number and the text -/
section
variable {prog : Program} {w : World} {A : Around} {s : Shared}
end
section
variable {X : Cx} {k : Nat}
end
/-! by data -/
end DL

set_option Elab.async false
set_option linter.all false
set_option maxRecDepth 100000
set_option maxHeartbeats 4000000
set_option autoImplicit false
namespace DL
open PySem PySem.Spec PyProof.Rows L2
/-! ### {k: v}, a dict with a nested key -/
section
variable {X : Cx} {pos : Pos}
end
end DL

set_option Elab.async false
set_option linter.all false
set_option maxRecDepth 100000
set_option maxHeartbeats 4000000
set_option autoImplicit false
namespace DL
/-! ### rows of numbers that hold: the plain law -/
theorem nodup_filter {α : Type} {l : List α} (p : α → Bool) (h : l.Nodup) : (l.filter p).Nodup := h.sublist List.filter_sublist
structure Sys where
  B : Nat → Nat → Bool
  L : Nat → Nat → Bool
  F : List Nat → Bool
  Blt : ∀ k o, B k o = true → o < k
  Llt : ∀ k o, L k o = true → o < k
  Fsub : ∀ a b, a.Sublist b → F b = true → F a = true
  Fperm : ∀ a b, a.Perm b → F a = F b
  F1 : ∀ k, F [k] = true
def restN (left row : List Nat) : List Nat := left.filter fun k => decide (k ∉ row)
variable (S : Sys)
/-- a first row of what is left -/
structure FR (left row : List Nat) : Prop where
  sub : row.Sublist left
  beh : ∀ k ∈ row, ∀ o ∈ left, S.B k o = false
  lev : ∀ k ∈ row, ∀ o ∈ left, S.L k o = true → o ∈ row
  fit : S.F row = true
def canJ (left row : List Nat) (k : Nat) : Prop := (∀ o ∈ left, S.L k o = true → o ∈ row) ∧ S.F (row ++ [k]) = true
def readyP (left : List Nat) (k : Nat) : Prop := k ∈ left ∧ ∀ o ∈ left, S.B k o = false
variable {S}
/-- one order more in a first row -/
def insN (left row : List Nat) (k : Nat) : List Nat := left.filter fun j => decide (j ∈ row ∨ j = k)
theorem mem_insN {left row : List Nat} {k j : Nat} : j ∈ insN left row k ↔ j ∈ left ∧ (j ∈ row ∨ j = k) := by
  unfold insN
  rw [List.mem_filter]
  simp
theorem insN_perm {left row : List Nat} {k : Nat} (hn : left.Nodup) (hs : row.Sublist left) (hk : k ∈ left) (hk2 : k ∉ row) : (insN left row k).Perm (row ++ [k]) := by
  have n1 : (insN left row k).Nodup := nodup_filter _ hn
  have n2 : (row ++ [k]).Nodup := by
    rw [List.nodup_append]
    refine ⟨hn.sublist hs, by simp, fun a ha b hb e => ?_⟩
    rw [List.mem_singleton.mp hb] at e
    exact hk2 (e ▸ ha)
  refine (List.perm_ext_iff_of_nodup n1 n2).mpr fun j => ?_
  rw [mem_insN, List.mem_append, List.mem_singleton]
  constructor
  · exact fun h => h.2
  · intro h
    refine ⟨?_, h⟩
    rcases h with h | h
    · exact hs.subset h
    · rw [h]; exact hk
theorem FR.ins {left row : List Nat} {k : Nat} (h : FR S left row) (hn : left.Nodup) (hr : readyP S left k) (hk : k ∉ row) (hc : canJ S left row k) : FR S left (insN left row k) := by
  refine ⟨List.filter_sublist, fun j hj o ho => ?_, fun j hj o ho hl => ?_, ?_⟩
  · rcases (mem_insN.mp hj).2 with c | rfl
    · exact h.beh j c o ho
    · exact hr.2 o ho
  · refine mem_insN.mpr ⟨ho, .inl ?_⟩
    rcases (mem_insN.mp hj).2 with c | rfl
    · exact h.lev j c o ho hl
    · exact hc.1 o ho hl
  · rw [S.Fperm _ _ (insN_perm hn h.sub hr.1 hk)]
    exact hc.2
/-- a way to part what is left into m rows -/
structure Asg (S : Sys) (left : List Nat) (m : Nat) (at_ : Nat → Nat) : Prop where
  lt : ∀ k ∈ left, at_ k < m
  fit : ∀ r, S.F (left.filter fun k => decide (at_ k = r)) = true
  beh : ∀ j ∈ left, ∀ k ∈ left, S.B j k = true → at_ k < at_ j
  lev : ∀ j ∈ left, ∀ k ∈ left, S.L j k = true → at_ k ≤ at_ j
theorem Asg.first {left : List Nat} {m : Nat} {at_ : Nat → Nat} (h : Asg S left m at_) : FR S left (left.filter fun k => decide (at_ k = 0)) := by
  refine ⟨List.filter_sublist, fun k hk o ho => ?_, fun k hk o ho hl => ?_, h.fit 0⟩
  · rw [List.mem_filter, decide_eq_true_iff] at hk
    cases e : S.B k o with
    | false => rfl
    | true => have := h.beh k hk.1 o ho e; omega
  · rw [List.mem_filter, decide_eq_true_iff] at hk
    have := h.lev k hk.1 o ho hl
    exact List.mem_filter.mpr ⟨ho, decide_eq_true (by omega)⟩
/-- rows, one behind the other, that use up what is left -/
def Chn (S : Sys) : List Nat → List (List Nat) → Prop
  | left, [] => left = []
  | left, row :: rows => FR S left row ∧ row ≠ [] ∧ Chn S (restN left row) rows
/-- m rows, and no fewer -/
def IsFew (S : Sys) (left : List Nat) (m : Nat) : Prop := (∃ rows, Chn S left rows ∧ rows.length = m) ∧ ∀ at_ c, Asg S left c at_ → m ≤ c
theorem IsFew.uniq {left : List Nat} {m n : Nat} (hc : ∀ rows, Chn S left rows → ∃ at_, Asg S left rows.length at_) (h : IsFew S left m) (k : IsFew S left n) : m = n := by
  obtain ⟨⟨r1, c1, l1⟩, b1⟩ := h
  obtain ⟨⟨r2, c2, l2⟩, b2⟩ := k
  obtain ⟨a1, g1⟩ := hc _ c1
  obtain ⟨a2, g2⟩ := hc _ c2
  have := b1 _ _ g2
  have := b2 _ _ g1
  omega
end DL

set_option Elab.async false
set_option linter.all false
set_option maxRecDepth 100000
set_option maxHeartbeats 4000000
set_option autoImplicit false
namespace DL
open PySem PySem.Spec PyProof.Rows L2
/-! ### all full first rows, as they are gone through -/
section
variable {S : Sys} {left : List Nat} {c : List Nat → Nat → Bool}
end
/-! ### parts of a list, counted -/
/-! ### dicts with nested keys and any values, typed -/
section
variable {α β : Type} [DecidableEq α]
variable {d : α → D} {v : β → D} (heq : ∀ a b, eqD (d a) (d b) = decide (a = b))
include heq
variable {w : World} {G : Gp} {a : Addr} {l : List (α × β)} {k : α}
end
end DL

set_option Elab.async false
set_option linter.all false
set_option maxRecDepth 100000
set_option maxHeartbeats 4000000
set_option autoImplicit false
namespace DL
open PySem PySem.Spec PyProof.Rows L2
/-! ### a list comprehension whose elements lay new things, by an invariant -/
theorem ne_refE {p : Addr} {ds : List D} {G : Gp} {R : DK} (e : G p = some (.lst ds)) (h : pyDs ds = true) (hd : depDs ds ≤ 60) (k : R (.bl (decide (ds ≠ []))) G) : dNe (.ref p) (.lst []) G R := by
  have k3 : dNe (.lst ds) (.lst []) G R := by
    rw [ne_pure (by simpa only [pyD] using h) rfl (by simp only [depD]; omega) (by simp [depD, depDs])]
    cases ds with
    | nil => simpa [eqD, eqDs] using k
    | cons a l => simpa [eqD, eqDs] using k
  unfold dNe dEqW at k3 ⊢
  have e2 : gPy G (.ref p) = gPy G (.lst ds) := by unfold gPy; simp only [e, toPy]
  simp only [e2]
  exact k3
end DL

set_option Elab.async false
set_option linter.all false
set_option maxRecDepth 100000
set_option maxHeartbeats 4000000
set_option autoImplicit false
namespace DL
open PySem PySem.Spec PyProof.Rows L2
/-! ### the keys of a dict, whatever they are, gone through -/
section
variable {prog : Program} {w : World} {A : Around} {E : Value → Shared → Prop} {s : Shared} {d I : Addr} {o : Obj} {es : Array DictEntry} {ep i : Nat}
end
section
variable {X : Cx}
end
end DL

set_option Elab.async false
set_option linter.all false
set_option maxRecDepth 100000
set_option maxHeartbeats 4000000
set_option autoImplicit false
namespace DL
open PySem PySem.Spec PyProof.Rows L2
/-! ### all first rows, and what may be left behind some -/
/-! ### d[k] = v again -/
section
variable {α β : Type} [DecidableEq α] {d : α → D} {v : β → D} (heq : ∀ a b, eqD (d a) (d b) = decide (a = b))
include heq
variable {w : World} {G : Gp} {a : Addr} {l : List (α × β)} {k : α}
end
end DL

set_option Elab.async false
set_option linter.all false
set_option maxRecDepth 100000
set_option maxHeartbeats 4000000
set_option autoImplicit false
namespace DL
open PySem PySem.Spec PyProof.Rows L2
/-! ### a list that is known, lent to a def that only reads it -/
section
variable {X : Cx} {k : Nat} {f : Addr} {fd : FuncData} {ps : List Str} {sp : DSp} {x : Str} {p pos : Pos} {e : Expr} {es : List Expr} {t : DA}
end
end DL

set_option Elab.async false
set_option linter.all false
set_option maxRecDepth 100000
set_option maxHeartbeats 4000000
set_option autoImplicit false
namespace DL
open PySem PySem.Spec PySem.Calls PyProof.Rows PySem.SeqAt PySem.W L2
/-! ### tuples sorted, the empty one among them -/
section
variable {prog : Program} {w : World} {A : Around} {E : Value → Shared → Prop} {s : Shared}
end
/-! ### sorted(d), the keys of d tuples of numbers -/
section
variable {X : Cx} {k : Nat}
end
/-! by data -/
section
variable {X : Cx} {k : Nat}
end
end DL

set_option Elab.async false
set_option linter.all false
set_option maxRecDepth 100000
set_option maxHeartbeats 4000000
set_option autoImplicit false
namespace DL
open PySem PySem.Spec PyProof.Rows L2
/-! ### d[k] = v and d.get(k, y), whether k is there or not -/
section
variable {α β : Type} [DecidableEq α]
variable {d : α → D} {v : β → D} (heq : ∀ a b, eqD (d a) (d b) = decide (a = b))
include heq
variable {w : World} {G : Gp} {a : Addr} {l : List (α × β)} {k : α}
end
end DL

set_option Elab.async false
set_option linter.all false
set_option maxRecDepth 100000
set_option maxHeartbeats 4000000
set_option autoImplicit false
namespace DL
open PySem PySem.Spec PyProof.Rows L2
/-! ### for k in d -/
/-! ### sorted of a list or tuple of alike things -/
section
variable {X : Cx} {k : Nat}
end
end DL

set_option Elab.async false
set_option linter.all false
set_option maxRecDepth 100000
set_option maxHeartbeats 4000000
set_option autoImplicit false
namespace DL
open PySem PySem.Spec PyProof.Rows L2
/-! ### dict of a list of pairs -/
section
variable {X : Cx} {pins : List (Addr × Obj)} {σ : L2.St} {H : Hp} {s : Shared} {N : Ns} {a : Addr} {kvs : List (D × D)} {kvs' : List (Int × V × V)}
end
/-! typed -/
section
variable {α β : Type} [DecidableEq α] {d : α → D} {v : β → D} (heq : ∀ a b, eqD (d a) (d b) = decide (a = b))
include heq
end
end DL

set_option Elab.async false
set_option linter.all false
set_option maxRecDepth 100000
set_option maxHeartbeats 4000000
set_option autoImplicit false
namespace DL
open PySem PySem.Spec PyProof.Rows L2
/-! ### sorted(xs, key=len), xs tuples -/
section
variable {X : Cx} {k : Nat}
end
/-! by data -/
section
variable {X : Cx} {k : Nat}
end
end DL

set_option Elab.async false
set_option linter.all false
set_option maxRecDepth 100000
set_option maxHeartbeats 4000000
set_option autoImplicit false
namespace DL
open PySem PySem.Spec PyProof.Rows L2
/-! ### ("a", "b"): a tuple of texts of which it is known that it has no dict -/
section
variable {X : Cx} {es : List Expr} {tr : DA} {pos : Pos}
end
end DL

set_option Elab.async false
set_option linter.all false
set_option maxRecDepth 100000
set_option maxHeartbeats 4000000
set_option autoImplicit false
namespace DL
open PySem PySem.Spec PyProof.Rows L2
/-! ### exceptions, by data: a wish tells the class, the fields of its own, the slots, what is known -/
abbrev DXW := Value → List (Str × D) → Sd → Gp → Prop
abbrev DXC := Value → List (Str × D) → Gp → Prop
/-- the dict of an exception's own fields -/
def XdAt (K : PySem.W.Frag) (H : Hp) (N : Ns) (G : Gp) : Option Addr → List (Str × D) → Prop
  | none, fs => fs = []
  | some a, fs => fs ≠ [] ∧ G a = none ∧ ∃ fs', H a = some (.xd fs') ∧ RKV K H N fs fs'
def UpX (K : PySem.W.Frag) (H : Hp) (N : Ns) (G : Gp) (RX : DXW) (W : WX) : Prop := ∀ cls fs σ' G' N' τ' H' d, RX cls fs σ' G' → Stp K H N G H' N' G' → RSt K H' N' σ' τ' → XdAt K H' N' G' d fs → W cls d τ' H'
def UpXC (K : PySem.W.Frag) (H : Hp) (N : Ns) (G : Gp) (RX : DXC) (E : XK) : Prop := ∀ cls fs G' N' H' d, RX cls fs G' → Stp K H N G H' N' G' → XdAt K H' N' G' d fs → E cls d H'
theorem UpX.le {K : PySem.W.Frag} {H H1 : Hp} {N N1 : Ns} {G G1 : Gp} {RX : DXW} {W : WX} (q : UpX K H N G RX W) (s : Stp K H N G H1 N1 G1) : UpX K H1 N1 G1 RX W := fun cls fs σ' G' N' τ' H' d r s' rs x => q cls fs σ' G' N' τ' H' d r (s.trans s') rs x
section
variable {X : Cx} {W : WX} {e a b c : Expr} {pos : Pos} {t ta tb : DXW → DE} {u u' : DXW → DT}
/-! ### what raises nothing -/
/-! ### expressions -/
variable {es : List Expr} {tr : DXW → DA}
end
/-! ### blocks -/
section
variable {X : Cx} {W : WX} {st : Stmt} {rest : List Stmt} {t u : DXW → DS} {e : Expr} {te : DXW → DE} {pos : Pos}
end
/-! ### defs that may raise -/
abbrev DSpX := List D → Gp → DK → DXC → Prop
def upSpX (K : PySem.W.Frag) (sp : DSpX) : Sp := fun vs H Q E => ∃ ds G N R RX, RDs K H N ds vs ∧ RelG K H N G ∧ sp ds G R RX ∧ UpQ K H N G R Q ∧ UpXC K H N G RX E
def FnX (P : Program) (w : World) (K : PySem.W.Frag) (mg : Str → Option Value) (base : Heap) (k : Nat) (f : Addr) (fd : FuncData) (ps : List Str) (sp : DSpX) : Prop := FnOk P w K mg base (L2N.CX P w) k f fd ps (upSpX K sp)
theorem FnX.mono {P : Program} {w : World} {K : PySem.W.Frag} {mg : Str → Option Value} {base : Heap} {j k : Nat} {f : Addr} {fd : FuncData} {ps : List Str} {sp : DSpX} (F : FnX P w K mg base j f fd ps sp) (h : j ≤ k) : FnX P w K mg base k f fd ps sp := FnOk.mono F h
theorem FnX.imp {P : Program} {w : World} {K : PySem.W.Frag} {mg : Str → Option Value} {base : Heap} {k : Nat} {f : Addr} {fd : FuncData} {ps : List Str} {sp sp' : DSpX} (F : FnX P w K mg base k f fd ps sp) (h : ∀ ds G R RX, sp' ds G R RX → sp ds G R RX) : FnX P w K mg base k f fd ps sp' :=
  FnOk.imp F fun vs H Q E ⟨ds, G, N, R, RX, r1, r2, h1, q⟩ => ⟨ds, G, N, R, RX, r1, r2, h ds G R RX h1, q⟩
section
variable {P : Program} {w : World} {K : PySem.W.Frag} {mg : Str → Option Value} {base : Heap}
end
section
variable {X : Cx} {W : WX} {k : Nat} {f : Addr} {fd : FuncData} {ps : List Str} {sp : DSpX} {x : Str} {p pos : Pos} {e : Expr} {es : List Expr} {t : DXW → DA}
end
end DL

set_option Elab.async false
set_option linter.all false
set_option maxRecDepth 100000
set_option maxHeartbeats 4000000
set_option autoImplicit false
namespace DL
open PySem PySem.Spec PyProof.Rows L2
/-! ### comprehensions whose turns may raise -/
section
variable {M : Model} {A : Around} {E : Value → Shared → Prop} {s : Shared} {env : Env}
end
/-! ### an exception leaves the block -/
section
variable {X : Cx} {pins : List (Addr × Obj)} {σ : L2.St} {H : Hp} {s s' : Shared} {B : Heap} {W : WX} {E : XK}
end
end DL

set_option Elab.async false
set_option linter.all false
set_option maxRecDepth 100000
set_option maxHeartbeats 4000000
set_option autoImplicit false
namespace DL
open PySem PySem.Spec PyProof.Rows L2
/-! ### list and dict comprehensions whose element may raise -/
section
variable {X : Cx} {pins : List (Addr × Obj)} {s : Shared} {σ : L2.St} {H : Hp} {Q : VK} {W : WX} {tg iter : Expr} {ifs : List Expr} {sc : Scope} {own : List (Str × Nat)} {g : TG} {tt : TT} {use : Option (Value → Sem Unit)} {Qf : Value → Shared → Prop}
end
/-! ### lists -/
section
variable {X : Cx} {pins : List (Addr × Obj)} {s : Shared} {σ : L2.St} {H : Hp} {Q : VK} {W : WX} {elt tg iter kx : Expr} {ifs : List Expr} {sc : Scope} {own : List (Str × Nat)} {pos pos' : Pos} {wi : TI} {g : TG} {tt : TT} {te tk : TE} {use : Option (Value → Sem Unit)} {Qf : Value → Shared → Prop}
/-! ### dicts, keys ints or texts -/
/-! ### as rules -/
variable {teσ tkσ : L2.St → TE}
end
end DL

set_option Elab.async false
set_option linter.all false
set_option maxRecDepth 100000
set_option maxHeartbeats 4000000
set_option autoImplicit false
namespace DL
open PySem PySem.Spec PyProof.Rows L2
/-! ### comprehensions by data, their element may raise; dict comprehensions -/
theorem UpX.blk {K : PySem.W.Frag} {H H' : Hp} {N N' : Ns} {G G' : Gp} {RX : DXW} {W : WX} {σ : Sd} {τ : L2.St} (q : UpX K H N G RX W) (s : Stp K H N G H' N' G') (rs : RSt K H N σ τ) : UpX K H' N' G' (fun cls fs _ G' => RX cls fs σ G') (fun cls d _ H' => W cls d τ H') :=
  fun cls fs _ G2 N2 _ H2 d r s2 _ x => q cls fs σ G2 N2 τ H2 d r (s.trans s2) (rs.le (s.trans s2).kp) x
theorem RKV.length {K : PySem.W.Frag} {H : Hp} {N : Ns} {a : List (Key × D)} {b : List (Key × V)} (h : RKV K H N a b) : a.length = b.length := Paired.length h
section
variable {X : Cx} {W : WX}
/-! ### raise, try -/
inductive HdsD (X : Cx) : List ExceptHandler → List (Value × DS) → Prop
  | nil : HdsD X [] []
  | cons {x : Str} {c : Value} {ts : DS} {b₀ : Stmt} {suite : List Stmt} {np pos' : Pos} {hds : List ExceptHandler} {l : List (Value × DS)} (hc : Names X x c) (hsu : ∀ (a : Addr) (oe : Obj) (pn : List (Addr × Obj)), QSs (X.suite a ((a, oe) :: pn)) (b₀ :: suite) ts) (r : HdsD X hds l) :
      HdsD X (.ExceptHandler (some (.Name x np)) none (b₀ :: suite) pos' :: hds) ((c, ts) :: l)
theorem HdsD.ok {hds : List ExceptHandler} {l : List (Value × DS)} (h : HdsD X hds l) : L2N.HdsOk X hds (l.map fun q => (q.1, fun _ _ _ => upS X.K q.2)) := by
  induction h with
  | nil => exact .nil
  | cons hc hsu r ih => exact .cons hc (fun a oe cls d pn _ _ => hsu a oe pn) ih
end
/-! ### steps -/
section
variable {σ : Sd} {G : Gp} {R : DK} {RX : DXW} {E : DEnds} {ti : DI} {g : DG} {tt : DT} {tk te : DE} {tkX teX : DXW → DE} {tbX : DXW → DS} {ws : List Nat} {mk : Bool} {K : PySem.W.Frag} {l : List (Value × DS)} {cls : Value} {tr : DA} {sp : DSpX}
end
end DL

set_option Elab.async false
set_option linter.all false
set_option maxRecDepth 100000
set_option maxHeartbeats 4000000
set_option autoImplicit false
namespace DL
open PySem PySem.Spec PyProof.Rows L2
section
variable {X : Cx}
end
end DL

set_option Elab.async false
set_option linter.all false
set_option maxRecDepth 100000
set_option maxHeartbeats 4000000
set_option autoImplicit false
namespace DL
open PySem PySem.Spec PyProof.Rows L2
section
variable {X : Cx} {e : Expr} {t : DE} {σ : Sd} {G : Gp} {R : DK}
end
end DL

set_option Elab.async false
set_option linter.all false
set_option maxRecDepth 100000
set_option maxHeartbeats 4000000
set_option autoImplicit false
namespace DL
open PySem PySem.Spec PyProof.Rows L2
section
variable {X : Cx} {x n y : Str} {c : Value} {i j : Nat} {body : List Stmt} {np pos pos' py pe pa : Pos} {tb : WX → TS}
end
/-! ### by data -/
section
variable {X : Cx} {x n y : Str} {c : Value} {i j : Nat} {body : List Stmt} {np pos pos' py pe pa : Pos} {tb : DXW → DS}
end
/-! ### isinstance of what was caught -/
/-! ### steps -/
section
variable {K : PySem.W.Frag} {G : Gp} {R : DK} {RX : DXW} {E : DEnds} {σ : Sd} {tb : DXW → DS} {c : Value} {i j : Nat} {a Dc : Addr} {cls : Value}
end
end DL

set_option Elab.async false
set_option linter.all false
set_option maxRecDepth 100000
set_option maxHeartbeats 4000000
set_option autoImplicit false
namespace DL
open PySem PySem.Spec PyProof.Rows L2
/-! ### f(k = v, ..) of a def that may raise -/
section
variable {X : Cx} {W : WX} {k : Nat} {f : Addr} {fd : FuncData} {ps ks : List Str} {sp : DSpX} {x : Str} {p pos : Pos} {kws : List Keyword} {tk : DA}
end
end DL

set_option Elab.async false
set_option linter.all false
set_option maxRecDepth 100000
set_option maxHeartbeats 4000000
set_option autoImplicit false
namespace DL
open PySem PySem.Spec PyProof.Rows L2
/-! ### range(i, j) -/
section
variable {X : Cx}
end
end DL

set_option Elab.async false
set_option linter.all false
set_option maxRecDepth 100000
set_option maxHeartbeats 4000000
set_option autoImplicit false
namespace DL
open PySem PySem.Spec PyProof.Rows L2
/-! ### f(a, .., k = v, ..) -/
section
variable {X : Cx} {k : Nat} {f : Addr} {fd : FuncData} {ps ks : List Str} {sp : DSp} {x : Str} {p pos : Pos} {e : Expr} {es : List Expr} {kws : List Keyword} {ta tk : DA}
end
/-! ### a list that is known, lent: what is known besides stays so where no list stands in it -/
section
variable {X : Cx} {k : Nat} {f : Addr} {fd : FuncData} {ps : List Str} {sp : DSp} {x : Str} {p pos : Pos} {e : Expr} {es : List Expr} {t : DA}
end
/-! ### != of lists in which known lists stand -/
end DL

set_option Elab.async false
set_option linter.all false
set_option maxRecDepth 100000
set_option maxHeartbeats 4000000
set_option autoImplicit false
namespace DL
open PySem PySem.Spec PyProof.Rows L2
/-! ### sorted of a dict whose keys are alike -/
section
variable {X : Cx} {k : Nat}
end
/-! ### range(i, j, -1) -/
section
variable {X : Cx}
end
end DL

set_option Elab.async false
set_option linter.all false
set_option maxRecDepth 100000
set_option maxHeartbeats 4000000
set_option autoImplicit false
namespace DL
open PySem PySem.Spec PyProof.Rows L2
/-! ### list(zip(xs, ys)) of two lists -/
section
variable {X : Cx} {pins : List (Addr × Obj)} {σ : L2.St} {H : Hp}
variable {a b : Expr} {p p2 pos pos2 : Pos}
end
end DL

set_option Elab.async false
set_option linter.all false
set_option maxRecDepth 100000
set_option maxHeartbeats 4000000
set_option autoImplicit false
namespace DL
open PySem PySem.Spec PyProof.Rows L2
/-! ### len of a dict whose keys are tuples, or of any dict told by its entries -/
section
variable {X : Cx}
end
end DL

set_option Elab.async false
set_option linter.all false
set_option maxRecDepth 100000
set_option maxHeartbeats 4000000
set_option autoImplicit false
namespace DL
open PySem PySem.Spec PyProof.Rows L2
/-! ### tuple * int, by 0 and 1 too -/
section
variable {X : Cx}
end
end DL

set_option Elab.async false
set_option linter.all false
set_option maxRecDepth 100000
set_option maxHeartbeats 4000000
set_option autoImplicit false
namespace DL
open PySem PySem.Spec PyProof.Rows L2
/-! ### [elt for x in xs for y in ys] -/
section
variable {X : Cx}
end
section
variable {X : Cx}
end
end DL

set_option Elab.async false
set_option linter.all false
set_option maxRecDepth 100000
set_option maxHeartbeats 4000000
set_option autoImplicit false
namespace DL
open PySem PySem.Spec PyProof.Rows L2
/-! ### ("a", "b")[:k]: a slice of a tuple of texts without a dict is one again -/
section
variable {X : Cx} {e : Expr} {te : DE} {pos : Pos}
end
end DL

set_option Elab.async false
set_option linter.all false
set_option maxRecDepth 100000
set_option maxHeartbeats 4000000
set_option autoImplicit false
namespace DL
open PySem PySem.Spec PyProof.Rows L2
/-! ### a def that may raise, where it does not -/
theorem FnX.calm {P : Program} {w : World} {K : PySem.W.Frag} {mg : Str → Option Value} {base : Heap} {k : Nat} {f : Addr} {fd : FuncData} {ps : List Str} {sp : DSpX} (F : FnX P w K mg base k f fd ps sp) : FnD P w K mg base k f fd ps (fun ds G R => sp ds G R fun _ _ _ => False) := by
  have lift : ∀ {vs : List V} {H : Hp} {Q : VK} {E : XK}, upSp K (fun ds G R => sp ds G R fun _ _ _ => False) vs H Q E → upSpX K sp vs H Q (fun _ _ _ => False) := by
    rintro vs H Q E ⟨ds, G, N, R, r1, r2, h1, q⟩
    exact ⟨ds, G, N, R, fun _ _ _ => False, r1, r2, h1, q, fun _ _ _ _ _ _ h => h.elim⟩
  refine ⟨fun vs H Q E h => F.len vs H Q _ (lift h), fun A outer s H args us vs Q E hr he hb hv hs => ?_⟩
  refine codeAny_mono (F.run A outer s H args us vs Q (fun _ _ _ => False) hr he hb hv (lift hs)) fun r s' hq => ?_
  cases r with
  | ok fl => cases fl <;> exact hq
  | error e => obtain ⟨_, _, _, _, _, _, _, _, _, _, _, _, hE⟩ := hq; exact hE.elim
end DL

set_option Elab.async false
set_option linter.all false
set_option maxRecDepth 100000
set_option maxHeartbeats 4000000
set_option autoImplicit false
namespace DL
open PySem PySem.Spec PyProof.Rows L2
/-! ### f-strings of texts and ints; partition -/
section
variable {X : Cx} {e : Expr} {te : DE} {pos : Pos}
inductive QJ (X : Cx) : List Expr → List DE → Prop where
  | nil : QJ X [] []
  | cons {e : Expr} {t : DE} {es : List Expr} {ts : List DE} (h : QE X e t) (r : QJ X es ts) : QJ X (e :: es) (t :: ts)
end
section
variable {te : DE} {ts : List DE} {acc x y : Str} {i : Int} {σ : Sd} {G : Gp} {R : DK} {k : Str → Prop}
end
end DL

set_option Elab.async false
set_option linter.all false
set_option maxRecDepth 100000
set_option maxHeartbeats 4000000
set_option autoImplicit false
namespace DL
open PySem PySem.Spec PyProof.Rows L2
/-! ### x in d, d.update(e), of kept dicts with plain keys -/
section
variable {X : Cx}
end
end DL

set_option Elab.async false
set_option linter.all false
set_option maxRecDepth 100000
set_option maxHeartbeats 4000000
set_option autoImplicit false
namespace DL
open PySem PySem.Spec PyProof.Rows L2
/-! ### dict comprehensions over typed things -/
end DL

set_option Elab.async false
set_option linter.all false
set_option maxRecDepth 100000
set_option maxHeartbeats 4000000
set_option autoImplicit false
namespace DL
open PySem PySem.Spec PyProof.Rows L2
/-! ### isinstance(None, a class of the program) -/
variable {X : Cx}
section
variable {K : PySem.W.Frag} {G : Gp} {R : DK} {x a : Addr} {d : D} {ds : List D}
end
end DL

set_option Elab.async false
set_option linter.all false
set_option maxRecDepth 100000
set_option maxHeartbeats 4000000
set_option autoImplicit false
namespace DL
open PySem PySem.Spec PyProof.Rows L2
/-! ### what a def tells, with less known: a new list as a list that nobody changes -/
theorem FnD.wk {P : Program} {w : World} {K : PySem.W.Frag} {mg : Str → Option Value} {base : Heap} {k : Nat} {f : Addr} {fd : FuncData} {ps : List Str} {sp : DSp} (F : FnD P w K mg base k f fd ps sp) : FnD P w K mg base k f fd ps (fun ds G R => sp ds G (Rt R)) :=
  FnOk.imp F fun vs H Q E ⟨ds, G, N, R, r1, r2, h1, q⟩ => ⟨ds, G, N, Rt R, r1, r2, h1, fun d G' N' v H' ⟨d', G2, w, h⟩ s' r => q.wk s' r w h s'.old⟩
end DL

set_option Elab.async false
set_option linter.all false
set_option maxRecDepth 100000
set_option maxHeartbeats 4000000
set_option autoImplicit false
namespace DL
open PySem PySem.Spec PyProof.Rows L2
/-! ### x = {k: v for ..}, x a plain local -/
section
variable {X : Cx} {W : WX} {sc : Scope} {own : List (Str × Nat)} {kx elt tg iter : Expr} {ifs : List Expr} {pos : Pos} {wi : TI} {g : TG} {tt : TT} {teσ tkσ : L2.St → TE}
end
section
variable {X : Cx} {W : WX}
variable {ti : DI} {g : DG} {tt : DT} {tk te : DXW → DE} {ws : List Nat} {σ : Sd} {G : Gp} {R : DK} {RX : DXW}
end
end DL

set_option Elab.async false
set_option linter.all false
set_option maxRecDepth 100000
set_option maxHeartbeats 4000000
set_option autoImplicit false
namespace DL
open PySem PySem.Spec PyProof.Rows L2
/-! ### methods with defaults left out; e.f op= value -/
section
variable {X : Cx} {C : Addr} {f m : Str} {e o value : Expr} {pos tpos apos : Pos} {ta tv : DE} {k : Nat} {g : Addr} {fd : FuncData} {ps : List Str} {sp : DSp}
/-- o.m(), all but the first by their defaults -/
def dMeth0D (C : Addr) (m : Str) (sp : DSp) (dfl : List D) (ta : DE) : DE := fun σ G R => ta σ G fun x G1 => ∃ a dx fs, x = .ref a ∧ G1 a = some (.ins C dx fs) ∧ fs.lookup m = none ∧ sp (x :: dfl) G1 R
theorem qe_meth0D {pl : Sem Bool} (dfl : List D) (dvs : List V) (rdd : ∀ K H N, RDs K H N dfl dvs) (he : QE X o ta) (c : Cls X.K C) (hm : Meth X.K C m g) (F : FnD X.prog X.w X.K X.mg X.base k g fd ps sp) (hr : Room k X.A) (hb : ∃ ds, Vals dvs ds ∧ Binds X.K fd ps ds)
    (ht : MethEq X o m apos [] pos pl := by exact rfl) :
    QE X (.Call (.Attribute o m apos) [] [] pos) (dMeth0D C m sp dfl ta) := by
  obtain ⟨ds, hv, hb⟩ := hb
  refine pe_mono (pe_meth0 he c hm F hr hb hv pass0 ht) fun τ H Q h => ?_
  obtain ⟨σ, G, N, R, hs, hg, ht, q⟩ := h
  refine ⟨σ, G, N, _, hs, hg, ht, fun x G1 N1 v1 H1 h1 s1 r1 => ?_⟩
  obtain ⟨a, dx, fs, rfl, ea, l, h2⟩ := h1
  obtain rfl := r1.of_ref
  obtain ⟨hN, fs', e', rkv⟩ := s1.rel a _ ea
  exact ⟨a, dx, fs', rfl, e', (rkv_look rkv).2 l, .ref a :: dfl, G1, N1, R, RDs.cons (RD.ref a) (rdd _ _ _), s1.rel, h2, q.le s1⟩
theorem x_meth0D {dfl : List D} {σ : Sd} {G : Gp} {R : DK} : dMeth0D C m sp dfl ta σ G R = ta σ G fun x G1 => ∃ a dx fs, x = .ref a ∧ G1 a = some (.ins C dx fs) ∧ fs.lookup m = none ∧ sp (x :: dfl) G1 R := rfl
theorem qs_fldaug {op : Operator} {r : DR2} (c : Cls X.K C) (n : NoAttr X.K C f) (ha : QE X o ta) (hv : QE X value tv) (hp : OpD X (inplaceOp op) r) : QS X (.AugAssign (.Attribute o f tpos) op value pos) (dFldAug C f ta tv r) :=
  ps_mono (ps_fldaug (rd := upR2 X.K r) ha hv (fun pins s σ H x y u v Q I r1 r2 q => hp pins s σ H x y u v Q I r1 r2 q)) fun D τ H h => by
    obtain ⟨σ, G, N, E, rs, rg, ht, u⟩ := h
    refine ⟨σ, G, N, _, rs, rg, ht, fun x G1 N1 v1 H1 h1 s1 r1 => ?_⟩
    obtain ⟨a, dx, fs, d, rfl, ea, l, h2⟩ := h1
    obtain rfl := r1.of_ref
    obtain ⟨hN, fs', e', rkv⟩ := s1.rel a _ ea
    obtain ⟨v, l', rd⟩ := (rkv_look rkv).1 d l
    refine ⟨a, C, dx, fs', v, rfl, e', c, n, l', σ, G1, N1, _, rs.le s1.kp, s1.rel, h2, fun y G2 N2 v2 H2 h3 s2 r2 => ?_⟩
    refine ⟨d, y, G2, N2, _, rd.le s2.kp, r2, s2.rel, h3, fun z G3 N3 v3 H3 h4 s3 r3 => ?_⟩
    obtain ⟨dx', fs2, ea3, hl, h5⟩ := h4
    obtain ⟨fs3, e3, hl', st⟩ := ins_write (f := f) s3.rel ea3 r3
    have s13 := (s1.trans s2).trans s3
    exact ⟨dx', fs3, e3, by omega, u.nx _ _ _ _ _ h5 (s13.trans st) ((rs.le s13.kp).le st.kp)⟩
end
theorem rds_i (i : Int) : ∀ K H N, RDs K H N [.int i] [.int i] := fun K H N => RDs.cons (show RD K H N (.int i) (.int i) by simp only [RD]) RDs.nil
theorem rds_s (x : Str) : ∀ K H N, RDs K H N [.str x] [.str x] := fun K H N => RDs.cons (show RD K H N (.str x) (.str x) by simp only [RD]) RDs.nil
/-! ### defs with defaults -/
/-- the function's object, with what its first default's tuple holds -/
theorem binds_dflt {K : PySem.W.Frag} {x qual : Str} {params : Arguments} {body : List Stmt} {scope : Scope} {f : Addr} {fd : FuncData} {ps : List Str} {dvs : List V} (F : FunD K x qual params body scope dvs [] f fd) (j : Nat) (hd : dvs ≠ []) (n : Nat) (hn : n + (dvs.length - j) = ps.length)
    (h : ∀ (T : Addr) (kV doc pm : Value) (an : Option Addr) (cdv ct : Value) (us its : List Value), us.length = n → its.length = dvs.length →
      ∃ k, bindArgs (PySem.W.fnOf x qual params body scope (.ref T) kV doc pm an cdv ct) ⟨us, []⟩ = seqItems? (.ref T) >>= k ∧ k (some its.toArray) = pure (ps.zip (us ++ its.drop j))) : ∃ ds, Vals (dvs.drop j) ds ∧ Binds K fd ps ds := F.binds1 n j hd hn h
/-- every parameter is given -/
theorem binds_full {K : PySem.W.Frag} {fd : FuncData} {ps : List Str} {dvs : List V} {j : Nat} (hj : dvs.length ≤ j) (h : ∃ ds, Vals (dvs.drop j) ds ∧ Binds K fd ps ds) : Binds K fd ps [] := by
  obtain ⟨ds, hv, hb⟩ := h
  rw [List.drop_eq_nil_of_le hj] at hv
  cases hv
  exact hb
theorem funD_mk {K : PySem.W.Frag} {st : Stmt} {x qual : Str} {f T : Addr} {oc kV doc pm cdv ct : Value} {od an oT : Option Addr} {osl sT : Array (Option Value)} {cT : Value} {its : List Value} {nT : Nat} {dvs : List V} (l : K.lookup f = some ⟨oc, od, .func (PySem.W.fnOf x qual (defArgs st) (defBody st) (defScope st) (.ref T) kV doc pm an cdv ct), osl⟩) (c : PySem.W.codeIn K cdv qual = true) (k : PySem.W.keepIn K (.ref f) = true)
    (lT : K.lookup T = some ⟨cT, oT, .seq its.toArray nT, sT⟩) (hv : Vals dvs its) (hne : dvs ≠ []) : FunD K x qual (defArgs st) (defBody st) (defScope st) dvs [] f (PySem.W.fnOf x qual (defArgs st) (defBody st) (defScope st) (.ref T) kV doc pm an cdv ct) :=
  ⟨⟨oc, od, .ref T, kV, doc, pm, an, cdv, ct, osl, rfl, l, c, .inr ⟨hne, T, _, its, nT, rfl, lT, rfl, hv⟩, .inl rfl⟩, k⟩
/-- a def with defaults, by its body -/
theorem fun_okDD {P : Program} {w : World} {K : PySem.W.Frag} {mg : Str → Option Value} {base : Heap} {x qual : Str} {st : Stmt} {f : Addr} {fd : FuncData} {dvs : List V} {M ps : List Str} {k : Nat} {sp : DSp} (F : FunD K x qual (defArgs st) (defBody st) (defScope st) dvs [] f fd) (S : FnScope M ps (defScope st)) (len : ∀ ds G R, sp ds G R → ds.length = ps.length)
    (hbody : ∀ (cdv : Value) (A : Around) (outer : List Env) (s : Shared) (H : Hp), Room k (A.deeper (envOfC qual (defScope st) s.heap.objs.size f cdv)) →
      ∃ t, QSs (cxOf CX0 P w K mg base M qual (defScope st) f cdv A outer s H E0).nox (defBody st) t ∧ ∀ (ds : List D) (G : Gp) (R : DK), sp ds G R → t { nx := fun _ G1 => ∃ G', Sub G' G1 ∧ R .non G', rt := R } (startD M.length ds) G) : FnD P w K mg base (k + 1) f fd ps sp := by
  refine F.ok S (fun vs H Q E h => ?_) (fun cdv A outer s H vs Q E hr h => ?_)
  · obtain ⟨ds, G, N, R, r1, _, h1, _⟩ := h
    rw [← r1.length]; exact len ds G R h1
  · obtain ⟨ds, G, N, R, r1, r2, h1, q⟩ := h
    obtain ⟨t, ht, hq⟩ := hbody cdv A outer s H hr
    refine ⟨upS K t, PSs.nox ht, startD M.length ds, G, N, _, RSt.begin r1, r2, hq ds G R h1, ⟨fun σ' G' N' τ' H' h s' r => ?_, q, fun _ _ _ _ _ h => h.elim, fun _ _ _ _ _ h => h.elim⟩⟩
    obtain ⟨G2, sb, h⟩ := h
    exact q _ _ _ _ _ h (s'.trans (s'.rel.sub sb)) RD.non
end DL

set_option Elab.async false
set_option linter.all false
set_option maxRecDepth 100000
set_option maxHeartbeats 4000000
set_option autoImplicit false
namespace K19
open PySem PySem.Spec PyProof.Rows L2 DL
local macro_rules | `(tactic| walk_at "d") => `(tactic| dsimp only [dSeq, dNext, dIfS, dRet, dRetN, dAsg, dName, dVar, dC, dOp, dUn, dChain, dB, dAnd, dOr, dNot, dAndV, dOrV, dNotV, dIf, dNil, dCons, dTup, dLst, newL, dCallB, dCall, dCallK, dDrop, dAug, dAugS, dSub, dM, dM0, dSlice, dNoPart, dPart, dLc, dYes, dFor, dIter, dRng1, dEnum, dZipM, srcD, dStar, dInK, dIxK, dLenSet, dRev,
  startD, wipeD, setAll, dNames, List.map_cons, List.map_nil, List.length_cons, List.length_nil, List.replicate, List.cons_append, List.nil_append, List.append_nil, List.getElem?_cons_zero, List.getElem?_cons_succ, List.set_cons_zero, List.set_cons_succ, List.map, Nat.zero_add, Nat.reduceAdd, Nat.reduceSub, Nat.sub_self, Nat.succ_sub_succ_eq_sub])
local macro_rules | `(tactic| walk_at "o") => `(tactic| simp only [dAdd_ii, dAdd_ss, dAdd_tt, dAdd_ll, dMinus_ii, dMul_ii, dMod_ii, dFdiv_ii, dPow_ii, dShl_ii, dNeg_i, dIadd_ii, dLt_ii, dLe_ii, dGt_ii, dGe_ii, dEq_ii, dNe_ii, dEq_ss, dNe_ss, dEq_bb, dNe_bb, dIs_n, dIsNot_n, dMax2_ii, dMin2_ii, dTuple_t, dTuple_l, dList_t, dList_l, dIx_t, dIx_l, dIx_s, dSl_t, dSl_l, dSl_s, newL_f, len_tup, len_lst])
local macro_rules | `(tactic| walk_at "w") => `(tactic| dsimp only [x_var, x_c, x_op, x_un, x_b, x_and, x_or, x_not, x_chain, x_andV, x_orV, x_notV, x_if, x_nil, x_cons, x_tup, x_lst0, x_lst1, x_callB, x_call, x_callK, x_next, x_seq, x_break, x_cont, x_drop, x_ret, x_ifS, x_asg, x_name, x_names, x_sub, x_aug, x_augS, x_for, x_lc0, x_lc1, x_yes, x_noPart, x_part, x_slice, x_iter, it_t, it_l, it_n, it_s, it_r, x_rng1, x_enum, x_rev, x_m, x_m0, x_mX, x_zip, x_star_t, x_star_l, x_lenSet, x_forgo0, x_lcgo0, x_while, x_par, x_sortK,
  br_t, br_f, isB_bl, isI_int, isN_some, slo_some, atL_lst, ix_t, ix_l, ix_n,
  dAdd_ii, dAdd_ss, dAdd_tt, dAdd_ll, dMinus_ii, dMul_ii, dMod_ii, dFdiv_ii, dPow_ii, dShl_ii, dNeg_i, dIadd_ii, dLt_ii, dLe_ii, dGt_ii, dGe_ii, ltE_ii, ltE_ss, srcD, isi_i, isi_s, isi_b, isi_n, isi_t, isi_nt, isi_l, isi2_i, isi2_s, isi2_b, isi2_n, isi2_t, isi2_nt, isi2_l, inon_n, inon_i, inon_s, inon_b, inon_t, inon_l, inon_r, dEq_ii, dNe_ii, dEq_ss, dNe_ss, dEq_bb, dNe_bb, dIs_n, dIsNot_n, dMax2_ii, dMin2_ii, dTuple_t, dTuple_l, dList_t, dList_l, dSl_t, dSl_l, dSl_s, newL_f, newL_t, app_r, int_b, int_i, strI_i, strX_i, strX_s,
  startD, wipeD, setAll, permL, List.filterMap, List.map_cons, List.map_nil, List.length_cons, List.length_nil, List.replicate, List.cons_append, List.nil_append, List.append_nil, List.getElem?_cons_zero, List.getElem?_cons_succ, List.set_cons_zero, List.set_cons_succ, List.map, Nat.zero_add, Nat.reduceAdd, Nat.reduceSub, Nat.sub_self, Nat.succ_sub_succ_eq_sub])
local macro_rules | `(tactic| walk_at "v") => `(tactic| simp only [ofString_inj, String.reduceEq, at_0, at_1, at_2, at_3, at_4, at_5, isN_some, isBB_bl, isB_bl, br_t, br_f, br_not, br_and, br_or, br_dec, ix_r, len_tup, len_lst, len_nt, ltE_key, gup_gup, gup_same, starD_one, cut1, cut2, kt1, kt2, kt3, kt4, kt5, kt6, isTy, String.reduceBEq, Bool.or_false, Bool.false_or, Bool.true_or, Bool.or_true, Bool.and_false, Bool.false_and, Bool.true_and, Bool.and_true, Bool.not_true, Bool.not_false, decide_true, decide_false, eq_self_iff_true, Bool.false_eq_true, Int.reduceAdd, Int.add_zero, if_true, if_false, true_and, and_true])
local macro_rules | `(tactic| walk_at "side") => `(tactic| first | with_reducible assumption | omega | exact mty_up | exact True.intro | (simp only [List.mem_cons, ofString_inj, String.reduceEq, true_or, or_true, List.length_map]; done) | with_reducible exact (rfl : (_ : Nat) = _) | exact (rfl : (_ : Option String) = _) | (refine small_line ?_; omega) | (walk_at "ll"; first | omega | (refine small_line ?_; omega) | fail) | (exact log_small (by omega)) | fail)
local macro_rules | `(tactic| walk_at "x") => `(tactic| fail)
local macro_rules | `(tactic| walk_at "go") => `(tactic| repeat' (first | dsimp only [x_var, x_c, x_op, x_un, x_b, x_and, x_or, x_not, x_chain, x_andV, x_orV, x_notV, x_if, x_nil, x_cons, x_tup, x_lst0, x_lst1, x_callB, x_call, x_callK, x_next, x_seq, x_break, x_cont, x_drop, x_ret, x_ifS, x_asg, x_name, x_names, x_sub, x_aug, x_augS, x_for, x_lc0, x_lc1, x_yes, x_noPart, x_part, x_slice, x_iter, it_t, it_l, it_n, it_s, it_r, x_rng1, x_enum, x_rev, x_m, x_m0, x_mX, x_zip, x_star_t, x_star_l, x_lenSet, x_forgo0, x_lcgo0, x_while, x_par, x_sortK, br_t, br_f, isB_bl, isI_int, isN_some, slo_some, atL_lst, ix_t, ix_l, ix_n, dAdd_ii, dAdd_ss, dAdd_tt, dAdd_ll, dMinus_ii, dMul_ii, dMod_ii, dFdiv_ii, dPow_ii, dShl_ii, dNeg_i, dIadd_ii, dLt_ii, dLe_ii, dGt_ii, dGe_ii, ltE_ii, ltE_ss, srcD, isi_i, isi_s, isi_b, isi_n, isi_t, isi_nt, isi_l, isi2_i, isi2_s, isi2_b, isi2_n, isi2_t, isi2_nt, isi2_l, inon_n, inon_i, inon_s, inon_b, inon_t, inon_l, inon_r, dEq_ii, dNe_ii, dEq_ss, dNe_ss, dEq_bb, dNe_bb, dIs_n, dIsNot_n, dMax2_ii, dMin2_ii, dTuple_t, dTuple_l, dList_t, dList_l, dSl_t, dSl_l, dSl_s, newL_f, newL_t, app_r, int_b, int_i, strI_i, strX_i, strX_s, startD, wipeD, setAll, permL, List.filterMap, List.map_cons, List.map_nil, List.length_cons, List.length_nil, List.replicate, List.cons_append, List.nil_append, List.append_nil, List.getElem?_cons_zero, List.getElem?_cons_succ, List.set_cons_zero, List.set_cons_succ, List.map, Nat.zero_add, Nat.reduceAdd, Nat.reduceSub, Nat.sub_self, Nat.succ_sub_succ_eq_sub] | simp only [ofString_inj, String.reduceEq, at_0, at_1, at_2, at_3, at_4, at_5, isN_some, isBB_bl, isB_bl, br_t, br_f, br_not, br_and, br_or, br_dec, ix_r, len_tup, len_lst, len_nt, ltE_key, gup_gup, gup_same, starD_one, cut1, cut2, kt1, kt2, kt3, kt4, kt5, kt6, isTy, String.reduceBEq, Bool.or_false, Bool.false_or, Bool.true_or, Bool.or_true, Bool.and_false, Bool.false_and, Bool.true_and, Bool.and_true, Bool.not_true, Bool.not_false, decide_true, decide_false, eq_self_iff_true, Bool.false_eq_true, Int.reduceAdd, Int.add_zero, if_true, if_false, true_and, and_true] | walk_at "x" | with_reducible refine kont_go ?_ | with_reducible refine rt_sub (by assumption) ?_ | with_reducible refine rt_lst (by assumption) ?_ | with_reducible refine rt_drop (by assumption) ?_ | with_reducible refine rt_keep (by assumption) (by assumption) ?_ | with_reducible refine rt_same ?_ | (refine fun (p : Addr) (_ : _ = none) => ?_) | refine join_gor gup_same rfl (by walk_at "side") ?_ | with_reducible refine lc_cons ?_ | with_reducible refine for_cons ?_ | refine join_go rfl (by walk_at "side") ?_ | refine And.intro (by first | with_reducible assumption | omega | exact mty_up | exact True.intro | (simp only [List.mem_cons, ofString_inj, String.reduceEq, true_or, or_true, List.length_map]; done) | with_reducible exact (rfl : (_ : Nat) = _) | exact (rfl : (_ : Option String) = _) | (refine small_line ?_; omega) | (walk_at "ll"; first | omega | (refine small_line ?_; omega) | fail) | (exact log_small (by omega)) | fail) ?_ | fail))
def topS (i : Nat) : Stmt := PySem.Challenge.pw_steploft_k19_meanings_written_and_read.main.body.getD i (.Pass ⟨0, 0, 0, 0⟩)
abbrev s_is_whole : Stmt := topS 6
abbrev N_is_whole : List Str := ["thing"]
theorem sc_is_whole : FnScope N_is_whole ["thing"] (defScope s_is_whole) := ⟨rfl, rfl, rfl, by decide +kernel, rfl, by decide +kernel, by decide +kernel⟩
abbrev s_is_within : Stmt := topS 7
abbrev N_is_within : List Str := ["thing", "low", "high"]
theorem sc_is_within : FnScope N_is_within ["thing", "low", "high"] (defScope s_is_within) := ⟨rfl, rfl, rfl, by decide +kernel, rfl, by decide +kernel, by decide +kernel⟩
abbrev s_is_name : Stmt := topS 8
abbrev N_is_name : List Str := ["thing", "sign"]
theorem sc_is_name : FnScope N_is_name ["thing"] (defScope s_is_name) := ⟨rfl, rfl, rfl, by decide +kernel, rfl, by decide +kernel, by decide +kernel⟩
abbrev s_is_word : Stmt := topS 9
abbrev N_is_word : List Str := ["machine", "thing"]
theorem sc_is_word : FnScope N_is_word ["machine", "thing"] (defScope s_is_word) := ⟨rfl, rfl, rfl, by decide +kernel, rfl, by decide +kernel, by decide +kernel⟩
abbrev s_both_added : Stmt := topS 10
abbrev s_taken_off : Stmt := topS 11
abbrev s_bits_of_both : Stmt := topS 12
abbrev s_bits_of_one : Stmt := topS 13
abbrev s_bits_unlike : Stmt := topS 14
abbrev s_is_less : Stmt := topS 15
abbrev s_is_same : Stmt := topS 16
abbrev s_number_in : Stmt := topS 21
abbrev N_number_in : List Str := ["word", "sign"]
theorem sc_number_in : FnScope N_number_in ["word"] (defScope s_number_in) := ⟨rfl, rfl, rfl, by decide +kernel, rfl, by decide +kernel, by decide +kernel⟩
abbrev s_is_term : Stmt := topS 25
abbrev N_is_term : List Str := ["machine", "thing", "left", "word", "parts", "part"]
theorem sc_is_term : FnScope N_is_term ["machine", "thing", "left"] (defScope s_is_term) := ⟨rfl, rfl, rfl, by decide +kernel, rfl, by decide +kernel, by decide +kernel⟩
abbrev s_are_sets : Stmt := topS 26
abbrev N_are_sets : List Str := ["machine", "thing", "left", "one", "name", "term"]
theorem sc_are_sets : FnScope N_are_sets ["machine", "thing", "left"] (defScope s_are_sets) := ⟨rfl, rfl, rfl, by decide +kernel, rfl, by decide +kernel, by decide +kernel⟩
abbrev s_are_stores : Stmt := topS 27
abbrev N_are_stores : List Str := ["machine", "thing", "left", "one", "term"]
theorem sc_are_stores : FnScope N_are_stores ["machine", "thing", "left"] (defScope s_are_stores) := ⟨rfl, rfl, rfl, by decide +kernel, rfl, by decide +kernel, by decide +kernel⟩
abbrev s_is_done : Stmt := topS 28
abbrev N_is_done : List Str := ["machine", "thing", "left", "word", "parts", "one"]
theorem sc_is_done : FnScope N_is_done ["machine", "thing", "left"] (defScope s_is_done) := ⟨rfl, rfl, rfl, by decide +kernel, rfl, by decide +kernel, by decide +kernel⟩
abbrev s_is_meaning : Stmt := topS 29
abbrev N_is_meaning : List Str := ["machine", "thing"]
theorem sc_is_meaning : FnScope N_is_meaning ["machine", "thing"] (defScope s_is_meaning) := ⟨rfl, rfl, rfl, by decide +kernel, rfl, by decide +kernel, by decide +kernel⟩
abbrev s_show_term : Stmt := topS 30
abbrev N_show_term : List Str := ["term", "word", "parts"]
theorem sc_show_term : FnScope N_show_term ["term"] (defScope s_show_term) := ⟨rfl, rfl, rfl, by decide +kernel, rfl, by decide +kernel, by decide +kernel⟩
abbrev s_show_meaning : Stmt := topS 31
abbrev N_show_meaning : List Str := ["meaning", "word", "parts", "test", "ways", "one", "other", "sets", "stores", "items", "way", "name", "term", "cell"]
theorem sc_show_meaning : FnScope N_show_meaning ["meaning"] (defScope s_show_meaning) := ⟨rfl, rfl, rfl, by decide +kernel, rfl, by decide +kernel, by decide +kernel⟩
abbrev s_words_in : Stmt := topS 32
abbrev N_words_in : List Str := ["text", "found", "near", "sign"]
theorem sc_words_in : FnScope N_words_in ["text"] (defScope s_words_in) := ⟨rfl, rfl, rfl, by decide +kernel, rfl, by decide +kernel, by decide +kernel⟩
abbrev s_Reader___init__ : Stmt := inClass (topS 33) 0
abbrev N_Reader___init__ : List Str := ["self", "words"]
theorem sc_Reader___init__ : FnScope N_Reader___init__ ["self", "words"] (defScope s_Reader___init__) := ⟨rfl, rfl, rfl, by decide +kernel, rfl, by decide +kernel, by decide +kernel⟩
abbrev s_Reader_ahead : Stmt := inClass (topS 33) 1
abbrev N_Reader_ahead : List Str := ["self", "many", "place"]
theorem sc_Reader_ahead : FnScope N_Reader_ahead ["self", "many"] (defScope s_Reader_ahead) := ⟨rfl, rfl, rfl, by decide +kernel, rfl, by decide +kernel, by decide +kernel⟩
abbrev s_Reader_take : Stmt := inClass (topS 33) 2
abbrev N_Reader_take : List Str := ["self", "due", "word"]
theorem sc_Reader_take : FnScope N_Reader_take ["self", "due"] (defScope s_Reader_take) := ⟨rfl, rfl, rfl, by decide +kernel, rfl, by decide +kernel, by decide +kernel⟩
abbrev s_Reader_term : Stmt := inClass (topS 33) 3
abbrev N_Reader_term : List Str := ["self", "left", "word", "inner", "one", "op", "other", "number"]
theorem sc_Reader_term : FnScope N_Reader_term ["self", "left"] (defScope s_Reader_term) := ⟨rfl, rfl, rfl, by decide +kernel, rfl, by decide +kernel, by decide +kernel⟩
abbrev s_Reader_way : Stmt := inClass (topS 33) 4
abbrev N_Reader_way : List Str := ["self", "word", "left", "found"]
theorem sc_Reader_way : FnScope N_Reader_way ["self", "word", "left"] (defScope s_Reader_way) := ⟨rfl, rfl, rfl, by decide +kernel, rfl, by decide +kernel, by decide +kernel⟩
abbrev s_Reader_meaning : Stmt := inClass (topS 33) 5
abbrev N_Reader_meaning : List Str := ["self", "left", "test", "one"]
theorem sc_Reader_meaning : FnScope N_Reader_meaning ["self", "left"] (defScope s_Reader_meaning) := ⟨rfl, rfl, rfl, by decide +kernel, rfl, by decide +kernel, by decide +kernel⟩
abbrev s_Reader_done : Stmt := inClass (topS 33) 6
abbrev N_Reader_done : List Str := ["self", "left", "sets", "name", "cell"]
theorem sc_Reader_done : FnScope N_Reader_done ["self", "left"] (defScope s_Reader_done) := ⟨rfl, rfl, rfl, by decide +kernel, rfl, by decide +kernel, by decide +kernel⟩
abbrev s_read_meaning : Stmt := topS 34
abbrev N_read_meaning : List Str := ["machine", "text", "reader", "found"]
theorem sc_read_meaning : FnScope N_read_meaning ["machine", "text"] (defScope s_read_meaning) := ⟨rfl, rfl, rfl, by decide +kernel, rfl, by decide +kernel, by decide +kernel⟩
abbrev s__law_sack : Stmt := topS 36
abbrev N__law_sack : List Str := ["cell", "k"]
theorem sc__law_sack : FnScope N__law_sack ["cell", "k"] (defScope s__law_sack) := ⟨rfl, rfl, rfl, by decide +kernel, rfl, by decide +kernel, by decide +kernel⟩
abbrev s__law_pull : Stmt := topS 37
abbrev N__law_pull : List Str := ["sack", "many", "found", "mixed"]
theorem sc__law_pull : FnScope N__law_pull ["sack", "many"] (defScope s__law_pull) := ⟨rfl, rfl, rfl, by decide +kernel, rfl, by decide +kernel, by decide +kernel⟩
abbrev s__law_names : Stmt := topS 38
abbrev N__law_names : List Str := ["sack", "many", "letters", "some", "found", "k", "name", "step", "j"]
theorem sc__law_names : FnScope N__law_names ["sack", "many"] (defScope s__law_names) := ⟨rfl, rfl, rfl, by decide +kernel, rfl, by decide +kernel, by decide +kernel⟩
abbrev s__law_own : Stmt := topS 39
abbrev N__law_own : List Str := ["sack", "bits", "names", "hidden", "top", "cells"]
theorem sc__law_own : FnScope N__law_own ["sack"] (defScope s__law_own) := ⟨rfl, rfl, rfl, by decide +kernel, rfl, by decide +kernel, by decide +kernel⟩
abbrev s__law_word : Stmt := topS 40
abbrev N__law_word : List Str := ["sack", "own", "top"]
theorem sc__law_word : FnScope N__law_word ["sack", "own"] (defScope s__law_word) := ⟨rfl, rfl, rfl, by decide +kernel, rfl, by decide +kernel, by decide +kernel⟩
abbrev s__law_term : Stmt := topS 41
abbrev N__law_term : List Str := ["sack", "own", "left", "way", "op"]
theorem sc__law_term : FnScope N__law_term ["sack", "own", "left"] (defScope s__law_term) := ⟨rfl, rfl, rfl, by decide +kernel, rfl, by decide +kernel, by decide +kernel⟩
abbrev s__law_plan : Stmt := topS 42
abbrev N__law_plan : List Str := ["sack", "own", "left", "test", "names", "sets", "k", "spots"]
theorem sc__law_plan : FnScope N__law_plan ["sack", "own", "left"] (defScope s__law_plan) := ⟨rfl, rfl, rfl, by decide +kernel, rfl, by decide +kernel, by decide +kernel⟩
abbrev s__law_any_plan : Stmt := topS 43
abbrev N__law_any_plan : List Str := ["sack", "own"]
theorem sc__law_any_plan : FnScope N__law_any_plan ["sack", "own"] (defScope s__law_any_plan) := ⟨rfl, rfl, rfl, by decide +kernel, rfl, by decide +kernel, by decide +kernel⟩
abbrev s__law_shown : Stmt := topS 44
abbrev N__law_shown : List Str := ["term"]
theorem sc__law_shown : FnScope N__law_shown ["term"] (defScope s__law_shown) := ⟨rfl, rfl, rfl, by decide +kernel, rfl, by decide +kernel, by decide +kernel⟩
abbrev s__law_line : Stmt := topS 45
abbrev N__law_line : List Str := ["plan", "one", "other", "parts", "part", "name", "term", "cell"]
theorem sc__law_line : FnScope N__law_line ["plan"] (defScope s__law_line) := ⟨rfl, rfl, rfl, by decide +kernel, rfl, by decide +kernel, by decide +kernel⟩
abbrev s__law_same : Stmt := topS 46
abbrev N__law_same : List Str := ["found", "due", "one", "other"]
theorem sc__law_same : FnScope N__law_same ["found", "due"] (defScope s__law_same) := ⟨rfl, rfl, rfl, by decide +kernel, rfl, by decide +kernel, by decide +kernel⟩
abbrev s__law_right : Stmt := topS 47
abbrev N__law_right : List Str := ["sack", "own", "turn", "plan", "line"]
theorem sc__law_right : FnScope N__law_right ["sack"] (defScope s__law_right) := ⟨rfl, rfl, rfl, by decide +kernel, rfl, by decide +kernel, by decide +kernel⟩
abbrev s_law : Stmt := topS 48
abbrev N_law : List Str := ["script", "k", "cell"]
theorem sc_law : FnScope N_law ["script"] (defScope s_law) := ⟨rfl, rfl, rfl, by decide +kernel, rfl, by decide +kernel, by decide +kernel⟩
theorem ll_0 : (Str.ofString "steploft.errors").length = 15 := by rw [len_lit]; rfl
theorem ll_1 : (Str.ofString "steploft.machines").length = 17 := by rw [len_lit]; rfl
theorem ll_2 : (Str.ofString "abcdefghijklmnopqrstuvwxyz").length = 26 := by rw [len_lit]; rfl
theorem ll_3 : (Str.ofString "steploft.texts").length = 14 := by rw [len_lit]; rfl
theorem ll_4 : (Str.ofString "0123456789").length = 10 := by rw [len_lit]; rfl
theorem ll_5 : (Str.ofString "steploft.meanings").length = 17 := by rw [len_lit]; rfl
theorem ll_6 : (Str.ofString "[](){};=").length = 8 := by rw [len_lit]; rfl
theorem ll_7 : (Str.ofString "law_steploft_k19_meanings_written_and_read").length = 42 := by rw [len_lit]; rfl
theorem ll_8 : (Str.ofString "add").length = 3 := by rw [len_lit]; rfl
theorem ll_9 : (Str.ofString "sub").length = 3 := by rw [len_lit]; rfl
theorem ll_10 : (Str.ofString "and").length = 3 := by rw [len_lit]; rfl
theorem ll_11 : (Str.ofString "or").length = 2 := by rw [len_lit]; rfl
theorem ll_12 : (Str.ofString "xor").length = 3 := by rw [len_lit]; rfl
theorem ll_13 : (Str.ofString "less").length = 4 := by rw [len_lit]; rfl
theorem ll_14 : (Str.ofString "same").length = 4 := by rw [len_lit]; rfl
theorem ll_15 : (Str.ofString "reg").length = 3 := by rw [len_lit]; rfl
theorem ll_16 : (Str.ofString "num").length = 3 := by rw [len_lit]; rfl
theorem ll_17 : (Str.ofString "load").length = 4 := by rw [len_lit]; rfl
theorem ll_18 : (Str.ofString ")").length = 1 := by rw [len_lit]; rfl
theorem ll_19 : (Str.ofString "if").length = 2 := by rw [len_lit]; rfl
theorem ll_20 : (Str.ofString "nop").length = 3 := by rw [len_lit]; rfl
theorem ll_21 : (Str.ofString "").length = 0 := by rw [len_lit]; rfl
theorem ll_22 : (Str.ofString "a").length = 1 := by rw [len_lit]; rfl
theorem ll_23 : (Str.ofString "b").length = 1 := by rw [len_lit]; rfl
theorem ll_24 : (Str.ofString "x").length = 1 := by rw [len_lit]; rfl
theorem ll_25 : (Str.ofString "acc").length = 3 := by rw [len_lit]; rfl
theorem ll_26 : (Str.ofString "h").length = 1 := by rw [len_lit]; rfl
theorem ll_27 : (Str.ofString "abcdefgh").length = 8 := by rw [len_lit]; rfl
theorem ll_28 : (Str.ofString "then").length = 4 := by rw [len_lit]; rfl
theorem ll_29 : (Str.ofString "hidden").length = 6 := by rw [len_lit]; rfl
theorem ll_30 : (Str.ofString "put").length = 3 := by rw [len_lit]; rfl
theorem ll_31 : (Str.ofString "alu").length = 3 := by rw [len_lit]; rfl
theorem ll_32 : (Str.ofString "do").length = 2 := by rw [len_lit]; rfl
theorem ll_33 : (Str.ofString "no such text").length = 12 := by rw [len_lit]; rfl
theorem ll_34 : (Str.ofString "0").length = 1 := by rw [len_lit]; rfl
theorem ll_35 : (Str.ofString "]").length = 1 := by rw [len_lit]; rfl
theorem ll_36 : (Str.ofString "[").length = 1 := by rw [len_lit]; rfl
theorem ll_37 : (Str.ofString "(").length = 1 := by rw [len_lit]; rfl
theorem ll_38 : (Str.ofString "{").length = 1 := by rw [len_lit]; rfl
theorem ll_39 : (Str.ofString "}").length = 1 := by rw [len_lit]; rfl
theorem ll_40 : (Str.ofString "=").length = 1 := by rw [len_lit]; rfl
theorem ll_41 : (Str.ofString "else").length = 4 := by rw [len_lit]; rfl
theorem ll_42 : (Str.ofString " }").length = 2 := by rw [len_lit]; rfl
theorem ll_43 : (Str.ofString " ").length = 1 := by rw [len_lit]; rfl
theorem ll_44 : (Str.ofString " else ").length = 6 := by rw [len_lit]; rfl
theorem ll_45 : (Str.ofString " = ").length = 3 := by rw [len_lit]; rfl
theorem ll_46 : (Str.ofString " ; ").length = 3 := by rw [len_lit]; rfl
theorem ll_47 : (Str.ofString ";").length = 1 := by rw [len_lit]; rfl
theorem ll_48 : (Str.ofString "z").length = 1 := by rw [len_lit]; rfl
theorem ll_49 : (Str.ofString "{ ").length = 2 := by rw [len_lit]; rfl
theorem ll_50 : (Str.ofString "] = ").length = 4 := by rw [len_lit]; rfl
theorem ll_51 : (Str.ofString " } else { ").length = 10 := by rw [len_lit]; rfl
theorem ll_52 : (Str.ofString " then ").length = 6 := by rw [len_lit]; rfl
theorem ll_53 : (Str.ofString "if ").length = 3 := by rw [len_lit]; rfl
theorem ll_54 : (Str.ofString " then { ").length = 8 := by rw [len_lit]; rfl
structure Ad where
  f_is_whole : Addr
  fd_is_whole : FuncData
  f_is_within : Addr
  fd_is_within : FuncData
  f_is_name : Addr
  fd_is_name : FuncData
  f_is_word : Addr
  fd_is_word : FuncData
  f_both_added : Addr
  fd_both_added : FuncData
  f_taken_off : Addr
  fd_taken_off : FuncData
  f_bits_of_both : Addr
  fd_bits_of_both : FuncData
  f_bits_of_one : Addr
  fd_bits_of_one : FuncData
  f_bits_unlike : Addr
  fd_bits_unlike : FuncData
  f_is_less : Addr
  fd_is_less : FuncData
  f_is_same : Addr
  fd_is_same : FuncData
  f_number_in : Addr
  fd_number_in : FuncData
  f_is_term : Addr
  fd_is_term : FuncData
  f_are_sets : Addr
  fd_are_sets : FuncData
  f_are_stores : Addr
  fd_are_stores : FuncData
  f_is_done : Addr
  fd_is_done : FuncData
  f_is_meaning : Addr
  fd_is_meaning : FuncData
  f_show_term : Addr
  fd_show_term : FuncData
  f_show_meaning : Addr
  fd_show_meaning : FuncData
  f_words_in : Addr
  fd_words_in : FuncData
  f_Reader___init__ : Addr
  fd_Reader___init__ : FuncData
  f_Reader_ahead : Addr
  fd_Reader_ahead : FuncData
  f_Reader_take : Addr
  fd_Reader_take : FuncData
  f_Reader_term : Addr
  fd_Reader_term : FuncData
  f_Reader_way : Addr
  fd_Reader_way : FuncData
  f_Reader_meaning : Addr
  fd_Reader_meaning : FuncData
  f_Reader_done : Addr
  fd_Reader_done : FuncData
  f_read_meaning : Addr
  fd_read_meaning : FuncData
  f__law_sack : Addr
  fd__law_sack : FuncData
  f__law_pull : Addr
  fd__law_pull : FuncData
  f__law_names : Addr
  fd__law_names : FuncData
  f__law_own : Addr
  fd__law_own : FuncData
  f__law_word : Addr
  fd__law_word : FuncData
  f__law_term : Addr
  fd__law_term : FuncData
  f__law_plan : Addr
  fd__law_plan : FuncData
  f__law_any_plan : Addr
  fd__law_any_plan : FuncData
  f__law_shown : Addr
  fd__law_shown : FuncData
  f__law_line : Addr
  fd__law_line : FuncData
  f__law_same : Addr
  fd__law_same : FuncData
  f__law_right : Addr
  fd__law_right : FuncData
  f_law : Addr
  fd_law : FuncData
  c_Reader : Addr
  k_OPS : Addr
abbrev kv_OPS (a : Ad) : List (Str × D) := [("add", .ref a.f_both_added), ("sub", .ref a.f_taken_off), ("and", .ref a.f_bits_of_both), ("or", .ref a.f_bits_of_one), ("xor", .ref a.f_bits_unlike), ("less", .ref a.f_is_less), ("same", .ref a.f_is_same)]
structure Tx (w : World) (K : PySem.W.Frag) (mg : Str → Option Value) (a : Ad) : Prop where
  F_is_whole : Fun K "is_whole" "is_whole" s_is_whole a.f_is_whole a.fd_is_whole
  b_is_whole : Binds K a.fd_is_whole ["thing"] []
  g_is_whole : mg "is_whole" = some (.ref a.f_is_whole)
  F_is_within : Fun K "is_within" "is_within" s_is_within a.f_is_within a.fd_is_within
  b_is_within : Binds K a.fd_is_within ["thing", "low", "high"] []
  g_is_within : mg "is_within" = some (.ref a.f_is_within)
  F_is_name : Fun K "is_name" "is_name" s_is_name a.f_is_name a.fd_is_name
  b_is_name : Binds K a.fd_is_name ["thing"] []
  g_is_name : mg "is_name" = some (.ref a.f_is_name)
  F_is_word : Fun K "is_word" "is_word" s_is_word a.f_is_word a.fd_is_word
  b_is_word : Binds K a.fd_is_word ["machine", "thing"] []
  g_is_word : mg "is_word" = some (.ref a.f_is_word)
  F_both_added : Fun K "both_added" "both_added" s_both_added a.f_both_added a.fd_both_added
  b_both_added : Binds K a.fd_both_added ["one", "other"] []
  g_both_added : mg "both_added" = some (.ref a.f_both_added)
  F_taken_off : Fun K "taken_off" "taken_off" s_taken_off a.f_taken_off a.fd_taken_off
  b_taken_off : Binds K a.fd_taken_off ["one", "other"] []
  g_taken_off : mg "taken_off" = some (.ref a.f_taken_off)
  F_bits_of_both : Fun K "bits_of_both" "bits_of_both" s_bits_of_both a.f_bits_of_both a.fd_bits_of_both
  b_bits_of_both : Binds K a.fd_bits_of_both ["one", "other"] []
  g_bits_of_both : mg "bits_of_both" = some (.ref a.f_bits_of_both)
  F_bits_of_one : Fun K "bits_of_one" "bits_of_one" s_bits_of_one a.f_bits_of_one a.fd_bits_of_one
  b_bits_of_one : Binds K a.fd_bits_of_one ["one", "other"] []
  g_bits_of_one : mg "bits_of_one" = some (.ref a.f_bits_of_one)
  F_bits_unlike : Fun K "bits_unlike" "bits_unlike" s_bits_unlike a.f_bits_unlike a.fd_bits_unlike
  b_bits_unlike : Binds K a.fd_bits_unlike ["one", "other"] []
  g_bits_unlike : mg "bits_unlike" = some (.ref a.f_bits_unlike)
  F_is_less : Fun K "is_less" "is_less" s_is_less a.f_is_less a.fd_is_less
  b_is_less : Binds K a.fd_is_less ["one", "other"] []
  g_is_less : mg "is_less" = some (.ref a.f_is_less)
  F_is_same : Fun K "is_same" "is_same" s_is_same a.f_is_same a.fd_is_same
  b_is_same : Binds K a.fd_is_same ["one", "other"] []
  g_is_same : mg "is_same" = some (.ref a.f_is_same)
  F_number_in : Fun K "number_in" "number_in" s_number_in a.f_number_in a.fd_number_in
  b_number_in : Binds K a.fd_number_in ["word"] []
  g_number_in : mg "number_in" = some (.ref a.f_number_in)
  F_is_term : Fun K "is_term" "is_term" s_is_term a.f_is_term a.fd_is_term
  b_is_term : Binds K a.fd_is_term ["machine", "thing", "left"] []
  g_is_term : mg "is_term" = some (.ref a.f_is_term)
  F_are_sets : Fun K "are_sets" "are_sets" s_are_sets a.f_are_sets a.fd_are_sets
  b_are_sets : Binds K a.fd_are_sets ["machine", "thing", "left"] []
  g_are_sets : mg "are_sets" = some (.ref a.f_are_sets)
  F_are_stores : Fun K "are_stores" "are_stores" s_are_stores a.f_are_stores a.fd_are_stores
  b_are_stores : Binds K a.fd_are_stores ["machine", "thing", "left"] []
  g_are_stores : mg "are_stores" = some (.ref a.f_are_stores)
  F_is_done : Fun K "is_done" "is_done" s_is_done a.f_is_done a.fd_is_done
  b_is_done : Binds K a.fd_is_done ["machine", "thing", "left"] []
  g_is_done : mg "is_done" = some (.ref a.f_is_done)
  F_is_meaning : Fun K "is_meaning" "is_meaning" s_is_meaning a.f_is_meaning a.fd_is_meaning
  b_is_meaning : Binds K a.fd_is_meaning ["machine", "thing"] []
  g_is_meaning : mg "is_meaning" = some (.ref a.f_is_meaning)
  F_show_term : Fun K "show_term" "show_term" s_show_term a.f_show_term a.fd_show_term
  b_show_term : Binds K a.fd_show_term ["term"] []
  g_show_term : mg "show_term" = some (.ref a.f_show_term)
  F_show_meaning : Fun K "show_meaning" "show_meaning" s_show_meaning a.f_show_meaning a.fd_show_meaning
  b_show_meaning : Binds K a.fd_show_meaning ["meaning"] []
  g_show_meaning : mg "show_meaning" = some (.ref a.f_show_meaning)
  F_words_in : Fun K "words_in" "words_in" s_words_in a.f_words_in a.fd_words_in
  b_words_in : Binds K a.fd_words_in ["text"] []
  g_words_in : mg "words_in" = some (.ref a.f_words_in)
  F_Reader___init__ : Fun K "__init__" "Reader.__init__" s_Reader___init__ a.f_Reader___init__ a.fd_Reader___init__
  b_Reader___init__ : Binds K a.fd_Reader___init__ ["self", "words"] []
  M_Reader : Mk K a.c_Reader a.f_Reader___init__
  F_Reader_ahead : FunD K "ahead" "Reader.ahead" (defArgs s_Reader_ahead) (defBody s_Reader_ahead) (defScope s_Reader_ahead) [V.int 0] [] a.f_Reader_ahead a.fd_Reader_ahead
  b_Reader_ahead : Binds K a.fd_Reader_ahead ["self", "many"] []
  bd_Reader_ahead : ∃ ds, Vals [V.int 0] ds ∧ Binds K a.fd_Reader_ahead ["self", "many"] ds
  m_Reader_ahead : Meth K a.c_Reader "ahead" a.f_Reader_ahead
  F_Reader_take : FunD K "take" "Reader.take" (defArgs s_Reader_take) (defBody s_Reader_take) (defScope s_Reader_take) [V.str ""] [] a.f_Reader_take a.fd_Reader_take
  b_Reader_take : Binds K a.fd_Reader_take ["self", "due"] []
  bd_Reader_take : ∃ ds, Vals [V.str ""] ds ∧ Binds K a.fd_Reader_take ["self", "due"] ds
  m_Reader_take : Meth K a.c_Reader "take" a.f_Reader_take
  F_Reader_term : Fun K "term" "Reader.term" s_Reader_term a.f_Reader_term a.fd_Reader_term
  b_Reader_term : Binds K a.fd_Reader_term ["self", "left"] []
  m_Reader_term : Meth K a.c_Reader "term" a.f_Reader_term
  F_Reader_way : Fun K "way" "Reader.way" s_Reader_way a.f_Reader_way a.fd_Reader_way
  b_Reader_way : Binds K a.fd_Reader_way ["self", "word", "left"] []
  m_Reader_way : Meth K a.c_Reader "way" a.f_Reader_way
  F_Reader_meaning : Fun K "meaning" "Reader.meaning" s_Reader_meaning a.f_Reader_meaning a.fd_Reader_meaning
  b_Reader_meaning : Binds K a.fd_Reader_meaning ["self", "left"] []
  m_Reader_meaning : Meth K a.c_Reader "meaning" a.f_Reader_meaning
  F_Reader_done : Fun K "done" "Reader.done" s_Reader_done a.f_Reader_done a.fd_Reader_done
  b_Reader_done : Binds K a.fd_Reader_done ["self", "left"] []
  m_Reader_done : Meth K a.c_Reader "done" a.f_Reader_done
  F_read_meaning : Fun K "read_meaning" "read_meaning" s_read_meaning a.f_read_meaning a.fd_read_meaning
  b_read_meaning : Binds K a.fd_read_meaning ["machine", "text"] []
  g_read_meaning : mg "read_meaning" = some (.ref a.f_read_meaning)
  F__law_sack : Fun K "_law_sack" "_law_sack" s__law_sack a.f__law_sack a.fd__law_sack
  b__law_sack : Binds K a.fd__law_sack ["cell", "k"] []
  g__law_sack : mg "_law_sack" = some (.ref a.f__law_sack)
  F__law_pull : Fun K "_law_pull" "_law_pull" s__law_pull a.f__law_pull a.fd__law_pull
  b__law_pull : Binds K a.fd__law_pull ["sack", "many"] []
  g__law_pull : mg "_law_pull" = some (.ref a.f__law_pull)
  F__law_names : Fun K "_law_names" "_law_names" s__law_names a.f__law_names a.fd__law_names
  b__law_names : Binds K a.fd__law_names ["sack", "many"] []
  g__law_names : mg "_law_names" = some (.ref a.f__law_names)
  F__law_own : Fun K "_law_own" "_law_own" s__law_own a.f__law_own a.fd__law_own
  b__law_own : Binds K a.fd__law_own ["sack"] []
  g__law_own : mg "_law_own" = some (.ref a.f__law_own)
  F__law_word : Fun K "_law_word" "_law_word" s__law_word a.f__law_word a.fd__law_word
  b__law_word : Binds K a.fd__law_word ["sack", "own"] []
  g__law_word : mg "_law_word" = some (.ref a.f__law_word)
  F__law_term : Fun K "_law_term" "_law_term" s__law_term a.f__law_term a.fd__law_term
  b__law_term : Binds K a.fd__law_term ["sack", "own", "left"] []
  g__law_term : mg "_law_term" = some (.ref a.f__law_term)
  F__law_plan : Fun K "_law_plan" "_law_plan" s__law_plan a.f__law_plan a.fd__law_plan
  b__law_plan : Binds K a.fd__law_plan ["sack", "own", "left"] []
  g__law_plan : mg "_law_plan" = some (.ref a.f__law_plan)
  F__law_any_plan : Fun K "_law_any_plan" "_law_any_plan" s__law_any_plan a.f__law_any_plan a.fd__law_any_plan
  b__law_any_plan : Binds K a.fd__law_any_plan ["sack", "own"] []
  g__law_any_plan : mg "_law_any_plan" = some (.ref a.f__law_any_plan)
  F__law_shown : Fun K "_law_shown" "_law_shown" s__law_shown a.f__law_shown a.fd__law_shown
  b__law_shown : Binds K a.fd__law_shown ["term"] []
  g__law_shown : mg "_law_shown" = some (.ref a.f__law_shown)
  F__law_line : Fun K "_law_line" "_law_line" s__law_line a.f__law_line a.fd__law_line
  b__law_line : Binds K a.fd__law_line ["plan"] []
  g__law_line : mg "_law_line" = some (.ref a.f__law_line)
  F__law_same : Fun K "_law_same" "_law_same" s__law_same a.f__law_same a.fd__law_same
  b__law_same : Binds K a.fd__law_same ["found", "due"] []
  g__law_same : mg "_law_same" = some (.ref a.f__law_same)
  F__law_right : Fun K "_law_right" "_law_right" s__law_right a.f__law_right a.fd__law_right
  b__law_right : Binds K a.fd__law_right ["sack"] []
  g__law_right : mg "_law_right" = some (.ref a.f__law_right)
  F_law : Fun K "law" "law" s_law a.f_law a.fd_law
  b_law : Binds K a.fd_law ["script"] []
  g_law : mg "law" = some (.ref a.f_law)
  kb0_read_meaning : ∀ (s : Shared) (ws : List Value), ws.length = 2 → BindsTo s a.fd_read_meaning ⟨[], List.zip ["text", "machine"] ws⟩ (List.zip ["machine", "text"] (permL [1, 0] ws))
  kb0_show_meaning : ∀ (s : Shared) (ws : List Value), ws.length = 1 → BindsTo s a.fd_show_meaning ⟨[], List.zip ["meaning"] ws⟩ (List.zip ["meaning"] (permL [0] ws))
  n_all : mg "all" = none
  n_bool : mg "bool" = none
  n_enumerate : mg "enumerate" = none
  n_int : mg "int" = none
  n_isinstance : mg "isinstance" = none
  n_len : mg "len" = none
  n_list : mg "list" = none
  n_max : mg "max" = none
  n_min : mg "min" = none
  n_range : mg "range" = none
  n_set : mg "set" = none
  n_str : mg "str" = none
  n_tuple : mg "tuple" = none
  n_zip : mg "zip" = none
  gc_Reader : mg "Reader" = some (.ref a.c_Reader)
  cl_Reader : Cls K a.c_Reader
  na_Reader_words : NoAttr K a.c_Reader "words"
  na_Reader_at : NoAttr K a.c_Reader "at"
  c_MOST_SIGNS : ∃ t, mg "MOST_SIGNS" = some (.int 8 t)
  c_LETTERS : ∃ t, mg "LETTERS" = some (.str "abcdefghijklmnopqrstuvwxyz" t)
  c_OPS : ∃ u, mg "OPS" = some u ∧ Kc K (.ref a.k_OPS) u
  d_OPS : KD K w a.k_OPS (kv_OPS a)
  c_FIGURES : ∃ t, mg "FIGURES" = some (.str "0123456789" t)
  c_MOST_FIGURES : ∃ t, mg "MOST_FIGURES" = some (.int 9 t)
  c_MOST_LEVELS : ∃ t, mg "MOST_LEVELS" = some (.int 6 t)
  c_SIGNS : ∃ t, mg "SIGNS" = some (.str "[](){};=" t)
local macro_rules | `(tactic| walk_at "ll") => `(tactic| simp only [List.length_map, List.length_append, List.length_cons, List.length_nil, List.map_cons, List.map_nil, List.sum_cons, List.sum_nil, len_app, rng_length, ll_0, ll_1, ll_2, ll_3, ll_4, ll_5, ll_6, ll_7, ll_8, ll_9, ll_10, ll_11, ll_12, ll_13, ll_14, ll_15, ll_16, ll_17, ll_18, ll_19, ll_20, ll_21, ll_22, ll_23, ll_24, ll_25, ll_26, ll_27, ll_28, ll_29, ll_30, ll_31, ll_32, ll_33, ll_34, ll_35, ll_36, ll_37, ll_38, ll_39, ll_40, ll_41, ll_42, ll_43, ll_44, ll_45, ll_46, ll_47, ll_48, ll_49, ll_50, ll_51, ll_52, ll_53, ll_54])
/-! ### places and orders -/
inductive Plc where
  | reg (x : Str) | hid (k : Nat)
deriving DecidableEq
inductive Ord where
  | alu (op : Str) (to a b : Plc) | move (to a : Plc) | put (to : Plc) (w : Nat) | load (to a : Plc) | store (a b : Plc)
deriving DecidableEq
def Plc.d : Plc → D
  | .reg x => .tup [.str "reg", .str x] | .hid k => .tup [.str "hid", .int k]
def Ord.d : Ord → D
  | .alu op to a b => .tup [.str "alu", .str op, to.d, a.d, b.d]
  | .move to a => .tup [.str "move", to.d, a.d]
  | .put to w => .tup [.str "put", to.d, .int w]
  | .load to a => .tup [.str "load", to.d, a.d]
  | .store a b => .tup [.str "store", a.d, b.d]
def Plc.txt : Plc → Str
  | .reg x => x | .hid k => "h" ++ toString (k : Int)
def Ord.txt : Ord → Str
  | .alu op to a b => Txt.join " " ["alu", op, to.txt, a.txt, b.txt]
  | .move to a => Txt.join " " ["move", to.txt, a.txt]
  | .put to w => Txt.join " " ["put", to.txt, toString (w : Int)]
  | .load to a => Txt.join " " ["load", to.txt, a.txt]
  | .store a b => Txt.join " " ["store", a.txt, b.txt]
def Ord.kix : Ord → Int
  | .alu _ _ _ _ => 0 | .move _ _ => 1 | .put _ _ => 2 | .load _ _ => 3 | .store _ _ => 4
def Ord.key (o : Ord) : Int × Str := (o.kix, o.txt)
theorem lc_typ {α : Type} {g : DG} {te : DE} {σ : Sd} {gd : Gp → Prop} {G : Gp} (d f : α → D) (hg : gd G) : ∀ (xs : List α) (acc : List D), (∀ x ∈ xs, ∀ Q : DK, Q (f x) G → g (d x) σ G fun σ2 G2 => te σ2 G2 Q) → ∀ Q : List D → Gp → Prop, Q (acc ++ xs.map f) G → dLcGo g dYes te gd σ (xs.map d) acc G Q
  | [], acc, _, Q, q => ⟨hg, by simpa using q⟩
  | x :: xs, acc, h, Q, q => ⟨hg, h x List.mem_cons_self _ (lc_typ d f hg xs (acc ++ [f x]) (fun y hy => h y (List.mem_cons_of_mem _ hy)) Q (by simpa using q))⟩
end K19


set_option Elab.async false
set_option linter.all false
set_option maxRecDepth 100000
set_option maxHeartbeats 4000000
set_option autoImplicit false
namespace K19
open PySem PySem.Spec PyProof.Rows L2 DL
local macro_rules | `(tactic| walk_at "d") => `(tactic| dsimp only [dSeq, dNext, dIfS, dRet, dRetN, dAsg, dName, dVar, dC, dOp, dUn, dChain, dB, dAnd, dOr, dNot, dAndV, dOrV, dNotV, dIf, dNil, dCons, dTup, dLst, newL, dCallB, dCall, dCallK, dDrop, dAug, dAugS, dSub, dM, dM0, dSlice, dNoPart, dPart, dLc, dYes, dFor, dIter, dRng1, dEnum, dZipM, srcD, dStar, dInK, dIxK, dLenSet, dRev,
  startD, wipeD, setAll, dNames, List.map_cons, List.map_nil, List.length_cons, List.length_nil, List.replicate, List.cons_append, List.nil_append, List.append_nil, List.getElem?_cons_zero, List.getElem?_cons_succ, List.set_cons_zero, List.set_cons_succ, List.map, Nat.zero_add, Nat.reduceAdd, Nat.reduceSub, Nat.sub_self, Nat.succ_sub_succ_eq_sub])
local macro_rules | `(tactic| walk_at "o") => `(tactic| simp only [dAdd_ii, dAdd_ss, dAdd_tt, dAdd_ll, dMinus_ii, dMul_ii, dMod_ii, dFdiv_ii, dPow_ii, dShl_ii, dNeg_i, dIadd_ii, dLt_ii, dLe_ii, dGt_ii, dGe_ii, dEq_ii, dNe_ii, dEq_ss, dNe_ss, dEq_bb, dNe_bb, dIs_n, dIsNot_n, dMax2_ii, dMin2_ii, dTuple_t, dTuple_l, dList_t, dList_l, dIx_t, dIx_l, dIx_s, dSl_t, dSl_l, dSl_s, newL_f, len_tup, len_lst])
local macro_rules | `(tactic| walk_at "w") => `(tactic| dsimp only [x_var, x_c, x_op, x_un, x_b, x_and, x_or, x_not, x_chain, x_andV, x_orV, x_notV, x_if, x_nil, x_cons, x_tup, x_lst0, x_lst1, x_callB, x_call, x_callK, x_next, x_seq, x_break, x_cont, x_drop, x_ret, x_ifS, x_asg, x_name, x_names, x_sub, x_aug, x_augS, x_for, x_lc0, x_lc1, x_yes, x_noPart, x_part, x_slice, x_iter, it_t, it_l, it_n, it_s, it_r, x_rng1, x_enum, x_rev, x_m, x_m0, x_mX, x_zip, x_star_t, x_star_l, x_lenSet, x_forgo0, x_lcgo0, x_while, x_par, x_sortK,
  br_t, br_f, isB_bl, isI_int, isN_some, slo_some, atL_lst, ix_t, ix_l, ix_n,
  dAdd_ii, dAdd_ss, dAdd_tt, dAdd_ll, dMinus_ii, dMul_ii, dMod_ii, dFdiv_ii, dPow_ii, dShl_ii, dNeg_i, dIadd_ii, dLt_ii, dLe_ii, dGt_ii, dGe_ii, ltE_ii, ltE_ss, srcD, isi_i, isi_s, isi_b, isi_n, isi_t, isi_nt, isi_l, isi2_i, isi2_s, isi2_b, isi2_n, isi2_t, isi2_nt, isi2_l, inon_n, inon_i, inon_s, inon_b, inon_t, inon_l, inon_r, dEq_ii, dNe_ii, dEq_ss, dNe_ss, dEq_bb, dNe_bb, dIs_n, dIsNot_n, dMax2_ii, dMin2_ii, dTuple_t, dTuple_l, dList_t, dList_l, dSl_t, dSl_l, dSl_s, newL_f, newL_t, app_r, int_b, int_i, strI_i, strX_i, strX_s,
  startD, wipeD, setAll, permL, List.filterMap, List.map_cons, List.map_nil, List.length_cons, List.length_nil, List.replicate, List.cons_append, List.nil_append, List.append_nil, List.getElem?_cons_zero, List.getElem?_cons_succ, List.set_cons_zero, List.set_cons_succ, List.map, Nat.zero_add, Nat.reduceAdd, Nat.reduceSub, Nat.sub_self, Nat.succ_sub_succ_eq_sub])
local macro_rules | `(tactic| walk_at "v") => `(tactic| simp only [ofString_inj, String.reduceEq, at_0, at_1, at_2, at_3, at_4, at_5, isN_some, isBB_bl, isB_bl, br_t, br_f, br_not, br_and, br_or, br_dec, ix_r, len_tup, len_lst, len_nt, ltE_key, gup_gup, gup_same, starD_one, cut1, cut2, kt1, kt2, kt3, kt4, kt5, kt6, isTy, String.reduceBEq, Bool.or_false, Bool.false_or, Bool.true_or, Bool.or_true, Bool.and_false, Bool.false_and, Bool.true_and, Bool.and_true, Bool.not_true, Bool.not_false, decide_true, decide_false, eq_self_iff_true, Bool.false_eq_true, Int.reduceAdd, Int.add_zero, if_true, if_false, true_and, and_true])
local macro_rules | `(tactic| walk_at "side") => `(tactic| first | with_reducible assumption | omega | exact mty_up | exact True.intro | (simp only [List.mem_cons, ofString_inj, String.reduceEq, true_or, or_true, List.length_map]; done) | with_reducible exact (rfl : (_ : Nat) = _) | exact (rfl : (_ : Option String) = _) | (refine small_line ?_; omega) | (walk_at "ll"; first | omega | (refine small_line ?_; omega) | fail) | (exact log_small (by omega)) | fail)
local macro_rules | `(tactic| walk_at "x") => `(tactic| fail)
local macro_rules | `(tactic| walk_at "go") => `(tactic| repeat' (first | dsimp only [x_var, x_c, x_op, x_un, x_b, x_and, x_or, x_not, x_chain, x_andV, x_orV, x_notV, x_if, x_nil, x_cons, x_tup, x_lst0, x_lst1, x_callB, x_call, x_callK, x_next, x_seq, x_break, x_cont, x_drop, x_ret, x_ifS, x_asg, x_name, x_names, x_sub, x_aug, x_augS, x_for, x_lc0, x_lc1, x_yes, x_noPart, x_part, x_slice, x_iter, it_t, it_l, it_n, it_s, it_r, x_rng1, x_enum, x_rev, x_m, x_m0, x_mX, x_zip, x_star_t, x_star_l, x_lenSet, x_forgo0, x_lcgo0, x_while, x_par, x_sortK, br_t, br_f, isB_bl, isI_int, isN_some, slo_some, atL_lst, ix_t, ix_l, ix_n, dAdd_ii, dAdd_ss, dAdd_tt, dAdd_ll, dMinus_ii, dMul_ii, dMod_ii, dFdiv_ii, dPow_ii, dShl_ii, dNeg_i, dIadd_ii, dLt_ii, dLe_ii, dGt_ii, dGe_ii, ltE_ii, ltE_ss, srcD, isi_i, isi_s, isi_b, isi_n, isi_t, isi_nt, isi_l, isi2_i, isi2_s, isi2_b, isi2_n, isi2_t, isi2_nt, isi2_l, inon_n, inon_i, inon_s, inon_b, inon_t, inon_l, inon_r, dEq_ii, dNe_ii, dEq_ss, dNe_ss, dEq_bb, dNe_bb, dIs_n, dIsNot_n, dMax2_ii, dMin2_ii, dTuple_t, dTuple_l, dList_t, dList_l, dSl_t, dSl_l, dSl_s, newL_f, newL_t, app_r, int_b, int_i, strI_i, strX_i, strX_s, startD, wipeD, setAll, permL, List.filterMap, List.map_cons, List.map_nil, List.length_cons, List.length_nil, List.replicate, List.cons_append, List.nil_append, List.append_nil, List.getElem?_cons_zero, List.getElem?_cons_succ, List.set_cons_zero, List.set_cons_succ, List.map, Nat.zero_add, Nat.reduceAdd, Nat.reduceSub, Nat.sub_self, Nat.succ_sub_succ_eq_sub] | simp only [ofString_inj, String.reduceEq, at_0, at_1, at_2, at_3, at_4, at_5, isN_some, isBB_bl, isB_bl, br_t, br_f, br_not, br_and, br_or, br_dec, ix_r, len_tup, len_lst, len_nt, ltE_key, gup_gup, gup_same, starD_one, cut1, cut2, kt1, kt2, kt3, kt4, kt5, kt6, isTy, String.reduceBEq, Bool.or_false, Bool.false_or, Bool.true_or, Bool.or_true, Bool.and_false, Bool.false_and, Bool.true_and, Bool.and_true, Bool.not_true, Bool.not_false, decide_true, decide_false, eq_self_iff_true, Bool.false_eq_true, Int.reduceAdd, Int.add_zero, if_true, if_false, true_and, and_true] | walk_at "x" | with_reducible refine kont_go ?_ | with_reducible refine rt_sub (by assumption) ?_ | with_reducible refine rt_lst (by assumption) ?_ | with_reducible refine rt_drop (by assumption) ?_ | with_reducible refine rt_keep (by assumption) (by assumption) ?_ | with_reducible refine rt_same ?_ | (refine fun (p : Addr) (_ : _ = none) => ?_) | refine join_gor gup_same rfl (by walk_at "side") ?_ | with_reducible refine lc_cons ?_ | with_reducible refine for_cons ?_ | refine join_go rfl (by walk_at "side") ?_ | refine And.intro (by first | with_reducible assumption | omega | exact mty_up | exact True.intro | (simp only [List.mem_cons, ofString_inj, String.reduceEq, true_or, or_true, List.length_map]; done) | with_reducible exact (rfl : (_ : Nat) = _) | exact (rfl : (_ : Option String) = _) | (refine small_line ?_; omega) | (walk_at "ll"; first | omega | (refine small_line ?_; omega) | fail) | (exact log_small (by omega)) | fail) ?_ | fail))
local macro_rules | `(tactic| walk_at "ll") => `(tactic| simp only [List.length_map, List.length_append, List.length_cons, List.length_nil, List.map_cons, List.map_nil, List.sum_cons, List.sum_nil, len_app, rng_length, ll_0, ll_1, ll_2, ll_3, ll_4, ll_5, ll_6, ll_7, ll_8, ll_9, ll_10, ll_11, ll_12, ll_13, ll_14, ll_15, ll_16, ll_17, ll_18, ll_19, ll_20, ll_21, ll_22, ll_23, ll_24, ll_25, ll_26, ll_27, ll_28, ll_29, ll_30, ll_31, ll_32, ll_33, ll_34, ll_35, ll_36, ll_37, ll_38, ll_39, ll_40, ll_41, ll_42, ll_43, ll_44, ll_45, ll_46, ll_47, ll_48, ll_49, ll_50, ll_51, ll_52, ll_53, ll_54])
/-! ### names -/
def letters : Str := "abcdefghijklmnopqrstuvwxyz"
def low (c : Nat) : Bool := decide (97 ≤ c) && decide (c ≤ 122)
def nameOk (z : Str) : Bool := decide (1 ≤ z.length) && decide (z.length ≤ 8) && z.cps.toList.all low
def isName : D → Bool | .str z => nameOk z | _ => false
theorem letters_list : letters.cps.toList = [97, 98, 99, 100, 101, 102, 103, 104, 105, 106, 107, 108, 109, 110, 111, 112, 113, 114, 115, 116, 117, 118, 119, 120, 121, 122] := by decide +kernel
theorem in_letters (c : Nat) : decide (c ∈ letters.cps.toList) = low c := by
  rw [letters_list, Bool.eq_iff_iff]
  simp only [decide_eq_true_eq, low, Bool.and_eq_true]
  constructor
  · intro h
    simp only [List.mem_cons, List.not_mem_nil, or_false] at h
    omega
  · rintro ⟨h1, h2⟩
    simp only [List.mem_cons, List.not_mem_nil, or_false]
    omega
theorem shl_ok {i : Int} (h0 : 0 ≤ i) (h1 : i ≤ 1000) : CShl 1 i := by
  refine ⟨h0, ?_⟩
  have : (Builtin.Int.intBits 1 : Int) = 1 := by decide
  rw [this]
  omega
/-! ### numbers' sizes -/
theorem bits_le {x : Int} {n : Nat} (h : x.natAbs < 2 ^ n) (h0 : 0 < n) : Builtin.Int.intBits x ≤ n := by
  unfold Builtin.Int.intBits
  split
  · omega
  · have := PySem.Flt.log2_lt_of h0 h
    omega
theorem pow_ok {x : Int} {n : Nat} {k : Int} (h : x.natAbs < 2 ^ n) (h0 : 0 < n) (hk : 0 ≤ k) (hk2 : k ≤ 100) (hn : n ≤ 10000) : CPowX x k := by
  refine ⟨hk, ?_⟩
  have h1 := bits_le h h0
  have h2 : (Builtin.Int.intBits x : Int) * k ≤ 10000 * 100 := Int.mul_le_mul (by omega) hk2 hk (by omega)
  omega
theorem mul_ok {x y : Int} (h1 : -(2 ^ 64) < x) (h2 : x < 2 ^ 64) : IntMulOk x y := .of_left (intBits_le_64 h1 h2)
theorem mul_ok' {x y : Int} (h1 : -(2 ^ 64) < y) (h2 : y < 2 ^ 64) : IntMulOk x y := .of_right (intBits_le_64 h1 h2)
theorem div_ok {x y : Int} (h1 : 0 < y) (h2 : y < 2 ^ 64) : CDivW x y := ⟨h1, Nat.lt_of_lt_of_le (PySem.Flt.log2_lt_of (k := 64) (by decide) (by omega)) (by decide)⟩
/-! ### draws -/
def Sack (n : Nat) (a b c : Int) : Prop := 0 ≤ a ∧ 0 ≤ b ∧ b < 10 ^ 41 ∧ 0 ≤ c ∧ c ≤ n
def SackO (n : Nat) (o : GO) : Prop := ∃ a b c, o = .lst [.int a, .int b, .int c] ∧ Sack n a b c
theorem SackO.mono {n m : Nat} {o : GO} (h : SackO n o) (l : n ≤ m) : SackO m o := by
  obtain ⟨a, b, c, e, h1, h2, h3, h4, h5⟩ := h
  exact ⟨a, b, c, e, h1, h2, h3, h4, by omega⟩
def sp__law_sack : DSp := fun ds G R => match ds with
  | [.int x, .int k] => 0 ≤ k ∧ k ≤ 1000 ∧ ∀ p o, G p = none → SackO 0 o → R (.ref p) (gup G p o)
  | _ => False
theorem ok__law_sack {P : Program} {w : World} {K : PySem.W.Frag} {mg : Str → Option Value} {base : Heap} {a : Ad} (T : Tx w K mg a) : FnD P w K mg base 1 a.f__law_sack a.fd__law_sack ["cell", "k"] sp__law_sack := by
  refine fun_okD T.F__law_sack sc__law_sack (fun ds G R h => ?_) (fun cdv A outer s H hr => ⟨_, (qss_one (qs_ret (qe_lst true (qa_cons (qe_callB (cd_max2 rfl) rfl T.n_max (by decide +kernel) (qa_cons qe_int (qa_cons (qe_op od_sub (qv 0) (qe_op od_pow qe_int qe_int)) qa_nil))) (qa_cons (qe_op (od_add false) (qe_op od_mod (qv 0) (qe_op (od_add false) (qe_op od_pow qe_int qe_int) qe_int)) (qe_op od_mul qe_int (qv 1))) (qa_cons qe_int qa_nil)))))), fun ds G R h => ?_⟩)
  · unfold sp__law_sack at h; split at h; rfl; exact h.elim
  · unfold sp__law_sack at h
    split at h
    · rename_i x k
      obtain ⟨h0, h1, h⟩ := h
      walk_at "d"
      simp only [dPow, dMinus, dMod, dMul, dAdd, dI, dI0, dMax2]
      have p10 : ∀ k : Int, 0 ≤ k → k ≤ 100 → CPowX 10 k := fun k h0 h1 => pow_ok (n := 4) (by decide) (by decide) h0 h1 (by decide)
      refine ⟨p10 _ (by decide) (by decide), p10 _ (by decide) (by decide), ⟨by decide, mul_ok (by decide) (by decide), by decide, fun p np => ret_same (h p _ np ⟨_, _, _, rfl, ?_, ?_, ?_, by decide, by decide⟩)⟩⟩
      · split <;> omega
      · simp only [Int.reduceToNat, Int.reducePow, Int.reduceAdd]
        omega
      · simp only [Int.reduceToNat, Int.reducePow, Int.reduceAdd]
        omega
    · exact h.elim
def sp__law_pull : DSp := fun ds G R => match ds with
  | [.ref s, .int m] => ∃ n o, G s = some o ∧ SackO n o ∧ n ≤ 1000000 ∧ 1 ≤ m ∧ m < 2 ^ 64 ∧ ∀ (r : Nat) o', (r : Int) < m → SackO (n + 1) o' → R (.int r) (gup G s o')
  | _ => False
theorem ok__law_pull {P : Program} {w : World} {K : PySem.W.Frag} {mg : Str → Option Value} {base : Heap} {a : Ad} (T : Tx w K mg a) : FnD P w K mg base 1 a.f__law_pull a.fd__law_pull ["sack", "many"] sp__law_pull := by
  refine fun_okD T.F__law_pull sc__law_pull (fun ds G R h => ?_) (fun cdv A outer s H hr => ⟨_, (qss_cons (qs_if (qt_cmp od_gt (qe_ix xd_ix (qv 0) qe_int (fun _ _ => rfl)) qe_int (nomark _))
      (qss_cons (qs_set (i := 2) sc__law_pull.nd rfl (.inl rfl) (qe_op od_mod (qe_ix xd_ix (qv 0) qe_int (fun _ _ => rfl)) (qv 1)))
      (qss_cons (qs_asg (qe_op od_fdiv (qe_ix xd_ix (qv 0) qe_int (fun _ _ => rfl)) (qv 1)) (qg_sub (qv 0) qe_int sd_set))
      (qss_one (qs_ret (qv 2)))))
      qss_nil)
      (qss_cons (qs_augS (qv 0) qe_int gd_ix qe_int od_iadd sd_set)
      (qss_cons (qs_set (i := 3) sc__law_pull.nd rfl (.inl rfl) (qe_op od_mod (qe_op od_pow (qe_op (od_add false) (qe_ix xd_ix (qv 0) qe_int (fun _ _ => rfl)) (qe_op od_mul qe_int (qe_ix xd_ix (qv 0) qe_int (fun _ _ => rfl)))) qe_int) (qe_op (od_add false) (qe_op od_pow qe_int qe_int) qe_int)))
      (qss_cons (qs_set (i := 3) sc__law_pull.nd rfl (.inl rfl) (qe_op od_mod (qe_op od_pow (qe_op (od_add false) (qv 3) (qe_op od_mul (qe_op od_mul qe_int (qe_ix xd_ix (qv 0) qe_int (fun _ _ => rfl))) (qe_ix xd_ix (qv 0) qe_int (fun _ _ => rfl)))) qe_int) (qe_op (od_add false) (qe_op od_pow qe_int qe_int) qe_int)))
      (qss_one (qs_ret (qe_op od_mod (qe_op od_fdiv (qv 3) qe_int) (qv 1)))))))), fun ds G R h => ?_⟩)
  · unfold sp__law_pull at h; split at h; rfl; exact h.elim
  · unfold sp__law_pull at h
    split at h
    · rename_i s m
      obtain ⟨n, o, e, ⟨a, b, c, rfl, ha, hb, hb2, hc, hc2⟩, hn, hm, hm2, h⟩ := h
      walk_at "d"
      have at0 : atI [D.int a, D.int b, D.int c] 0 = some (.int a) := rfl
      have at1 : atI [D.int a, D.int b, D.int c] 1 = some (.int b) := rfl
      have at2 : atI [D.int a, D.int b, D.int c] 2 = some (.int c) := rfl
      simp only [dIx, seqOf, lstOf, e, at0, at2, dGt, dOrd]
      by_cases h0 : 0 < a
      · rw [decide_eq_true h0]
        simp only [dMod, dFdiv, dI, e, at0, dSetI]
        refine ⟨by omega, div_ok (by omega) hm2, ?_⟩
        have eix : ixN [D.int a, D.int b, D.int c].length 0 = some 0 := rfl
        simp only [eix, List.set_cons_zero]
        have hr1 := Int.emod_nonneg a (show m ≠ 0 by omega)
        have hr2 := Int.emod_lt_of_pos a (show 0 < m by omega)
        have er : a % m = ((a % m).toNat : Int) := by omega
        rw [er]
        exact ret_same (h _ _ (by omega) ⟨_, _, _, rfl, Int.ediv_nonneg ha (by omega), hb, hb2, hc, by omega⟩)
      · rw [decide_eq_false h0]
        have eix : ixN [D.int a, D.int b, D.int c].length 2 = some 2 := rfl
        have at1' : atI [D.int a, D.int b, D.int (c + 1)] 1 = some (.int b) := rfl
        have at2' : atI [D.int a, D.int b, D.int (c + 1)] 2 = some (.int (c + 1)) := rfl
        simp only [dGetI, dIadd, e, at2, dSetI, eix, List.set_cons_zero, List.set_cons_succ, gup_same, at1', at2', dMul, dPow, dMod, dFdiv, dAdd, dI]
        have p10 : ∀ k : Int, 0 ≤ k → k ≤ 100 → CPowX 10 k := fun k h0 h1 => pow_ok (n := 4) (by decide) (by decide) h0 h1 (by decide)
        refine ⟨mul_ok (by decide) (by decide), pow_ok (n := 140) ?_ (by decide) (by decide) (by decide) (by decide), p10 _ (by decide) (by decide), by decide, mul_ok (by decide) (by decide), mul_ok' (by omega) (by omega), pow_ok (n := 140) ?_ (by decide) (by decide) (by decide) (by decide), p10 _ (by decide) (by decide), by decide, div_ok (by decide) (by decide), by omega, ?_⟩
        · simp only [Int.reducePow, Nat.reducePow] at hb2 ⊢
          omega
        · have hx := Int.emod_nonneg ((b + 15485863 * (c + 1)) ^ Int.toNat 5) (show (10 : Int) ^ Int.toNat 39 + 3 ≠ 0 by decide)
          have hy := Int.emod_lt_of_pos ((b + 15485863 * (c + 1)) ^ Int.toNat 5) (show (0 : Int) < 10 ^ Int.toNat 39 + 3 by decide)
          generalize (b + 15485863 * (c + 1)) ^ Int.toNat 5 % (10 ^ Int.toNat 39 + 3) = y at hx hy ⊢
          have hz : 0 ≤ 32452843 * (c + 1) * (c + 1) := Int.mul_nonneg (by omega) (by omega)
          have hz2 : 32452843 * (c + 1) * (c + 1) ≤ (32452843 * 1000001) * 1000001 := Int.mul_le_mul (by omega) (by omega) (by omega) (by omega)
          generalize 32452843 * (c + 1) * (c + 1) = z at hz hz2 ⊢
          simp only [Int.reduceToNat, Int.reducePow, Int.reduceAdd, Int.reduceMul, Nat.reducePow] at hy hz2 ⊢
          omega
        · generalize ((b + 15485863 * (c + 1)) ^ Int.toNat 5 % (10 ^ Int.toNat 39 + 3) + 32452843 * (c + 1) * (c + 1)) ^ Int.toNat 3 % (10 ^ Int.toNat 36 + 67) / 1024 = y
          have hr1 := Int.emod_nonneg y (show m ≠ 0 by omega)
          have hr2 := Int.emod_lt_of_pos y (show 0 < m by omega)
          have er : y % m = ((y % m).toNat : Int) := by omega
          rw [er]
          exact ret_same (h _ _ (by omega) ⟨_, _, _, rfl, ha, hb, hb2, by omega, by omega⟩)
    · exact h.elim
/-! ### names drawn -/
theorem nameOk_iff {z : Str} : nameOk z = true ↔ (1 ≤ (cds z).length ∧ (cds z).length ≤ 8) ∧ ∀ c ∈ cds z, low c = true := by
  unfold nameOk
  rw [cds_len]
  simp only [Bool.and_eq_true, decide_eq_true_eq, List.all_eq_true]
theorem letters_at : ∀ r : Nat, r < 26 → atI letters.cps.toList (r : Int) = some (97 + r) := by
  rw [letters_list]; decide
theorem low_at {r : Nat} (h : r < 26) : low (97 + r) = true := by
  simp only [low, Bool.and_eq_true, decide_eq_true_eq]; omega
def someZ : List Str := ["a", "b", "x", "acc", "h", "abcdefgh", "if", "then", "nop", "hidden", "put", "reg", "add", "alu", "else", "or", "less"]
theorem someZ_ok : ∀ z ∈ someZ, nameOk z = true := by decide +kernel
theorem someZ_at (r : Nat) (h : r < 17) : ∃ z, atI (someZ.map D.str) (r : Int) = some (.str z) ∧ nameOk z = true := by
  have hl : r < someZ.length := h
  refine ⟨someZ[r], atI_nat (by rw [List.getElem?_map, List.getElem?_eq_getElem hl]; rfl), someZ_ok _ (List.getElem_mem hl)⟩
/-- what a drawn list of names is -/
structure NamesOk (names : List Str) : Prop where
  ok : ∀ z ∈ names, nameOk z = true
  nd : names.Nodup
def zn (i : Nat) : Str := Str.ofString "z" ++ ⟨#[97 + i]⟩
theorem zn_cds (i : Nat) : cds (zn i) = [122, 97 + i] := by unfold zn; rw [cds_app, show cds (Str.ofString "z") = [122] by decide +kernel]; rfl
theorem zn_inj {i j : Nat} (h : zn i = zn j) : i = j := by
  have := congrArg cds h
  rw [zn_cds, zn_cds] at this
  injection this with _ h2
  injection h2 with h3 _
  omega
theorem zn_ok {i : Nat} (h : i < 26) : nameOk (zn i) = true := by
  rw [nameOk_iff, zn_cds]
  refine ⟨by simp, fun c hc => ?_⟩
  simp only [List.mem_cons, List.not_mem_nil, or_false] at hc
  rcases hc with rfl | rfl
  · rfl
  · exact low_at h
def sp__law_names : DSp := fun ds G R => match ds with
  | [.ref s, .int m] => ∃ n o, G s = some o ∧ SackO n o ∧ n ≤ 900000 ∧ 1 ≤ m ∧ m ≤ 6 ∧ ∀ names o', names.length = m.toNat → NamesOk names → SackO (n + 100) o' → R (.lst (names.map .str)) (gup G s o')
  | _ => False
theorem ok__law_names {P : Program} {w : World} {K : PySem.W.Frag} {mg : Str → Option Value} {base : Heap} {a : Ad} (T : Tx w K mg a) : FnD P w K mg base 2 a.f__law_names a.fd__law_names ["sack", "many"] sp__law_names := by
  refine fun_okD T.F__law_names sc__law_names (fun ds G R h => ?_) (fun cdv A outer s H hr => ⟨_, (qss_cons (qs_set (i := 2) sc__law_names.nd rfl (.inr rfl) qe_str)
      (qss_cons (qs_set (i := 3) sc__law_names.nd rfl (.inl rfl) (qe_lst false (qa_cons qe_str (qa_cons qe_str (qa_cons qe_str (qa_cons qe_str (qa_cons qe_str (qa_cons qe_str (qa_cons qe_str (qa_cons qe_str (qa_cons qe_str (qa_cons qe_str (qa_cons qe_str (qa_cons qe_str (qa_cons qe_str (qa_cons qe_str qa_nil))))))))))))))))
      (qss_cons (qs_set (i := 3) sc__law_names.nd rfl (.inl rfl) (qe_op (od_add false) (qv 3) (qe_lst false (qa_cons qe_str (qa_cons qe_str (qa_cons qe_str qa_nil))))))
      (qss_cons (qs_set (i := 4) sc__law_names.nd rfl (.inl rfl) (qe_lst true qa_nil))
      (qss_cons (qs_for PassesOwn.never rfl (qi_range1 rfl T.n_range (qa_cons (qv 1) qa_nil)) (qg_of (pg_name (i := 5) sc__law_names.nd rfl (.inl rfl)) (tg_name (i := 5) (ws := [5]) (by decide)))
      (qss_cons (qs_set (i := 6) sc__law_names.nd rfl (.inl rfl) (qe_ix xd_ix (qv 3) (qe_call (ok__law_pull T) (hr.mono (by omega)) rfl T.g__law_pull T.F__law_pull.kp T.b__law_pull (qa_cons (qv 0) (qa_cons qe_int qa_nil))) (fun _ _ => rfl)))
      (qss_cons (qs_if (qt_cmp (od_eq hr.units) (qe_call (ok__law_pull T) (hr.mono (by omega)) rfl T.g__law_pull T.F__law_pull.kp T.b__law_pull (qa_cons (qv 0) (qa_cons qe_int qa_nil))) qe_int (nomark _))
      (qss_one (qs_set (i := 6) sc__law_names.nd rfl (.inl rfl) (qe_m PySem.F.plainAttrs_str PySem.F.slot_str_join PySem.F.type_str_join md_join qe_str (qa_cons (qe_lc false rfl sc__law_names.nd (qi_range1 rfl T.n_range (qa_cons (qe_op (od_add false) qe_int (qe_call (ok__law_pull T) (hr.mono (by omega)) rfl T.g__law_pull T.F__law_pull.kp T.b__law_pull (qa_cons (qv 0) (qa_cons qe_int qa_nil)))) qa_nil)) (blkOk_by (own := [("j", 8)]) (N := N__law_names) (sc := defScope s__law_names) (by decide +kernel)) (fun _ _ _ _ _ => (pg_name (i := 8) sc__law_names.nd rfl (.inl rfl))) (tg_name (i := 8) (by decide)) (fun _ _ _ _ _ => qts_nil) (fun _ _ _ _ _ => (qe_ix xd_ix (qv 2) (qe_call (ok__law_pull T) (hr.mono (by omega)) rfl T.g__law_pull T.F__law_pull.kp T.b__law_pull (qa_cons (qv 0) (qa_cons qe_int qa_nil))) (fun _ _ => rfl)))) qa_nil))))
      qss_nil)
      (qss_cons (qs_if (QW.pt (qw_and (qt_cmp (od_ne hr.units) (qv 4) (qe_lst false qa_nil) (nomark _)) (qw_and1 (qt_cmp (od_eq hr.units) (qe_call (ok__law_pull T) (hr.mono (by omega)) rfl T.g__law_pull T.F__law_pull.kp T.b__law_pull (qa_cons (qv 0) (qa_cons qe_int qa_nil))) qe_int (nomark _)))))
      (qss_one (qs_set (i := 6) sc__law_names.nd rfl (.inl rfl) (qe_op (od_add false) (qe_slice false (qe_ix xd_ix (qv 4) (qe_un od_neg qe_int) (fun _ _ => rfl)) qo_none (qo_some (qe_un od_neg qe_int))) (qe_ix xd_ix (qv 2) (qe_call (ok__law_pull T) (hr.mono (by omega)) rfl T.g__law_pull T.F__law_pull.kp T.b__law_pull (qa_cons (qv 0) (qa_cons qe_int qa_nil))) (fun _ _ => rfl)))))
      qss_nil)
      (qss_cons (qs_set (i := 7) sc__law_names.nd rfl (.inl rfl) qe_int)
      (qss_cons (qs_while PassesOwn.never (qt_cmp od_in (qv 6) (qv 4) rfl)
      (qss_cons (qs_set (i := 6) sc__law_names.nd rfl (.inl rfl) (qe_op (od_add false) qe_str (qe_ix xd_ix (qv 2) (qv 7) (fun _ _ => rfl))))
      (qss_one (qs_set (i := 7) sc__law_names.nd rfl (.inl rfl) (qe_op (od_add false) (qv 7) qe_int)))))
      (qss_one (qs_expr (qe_m PySem.F.plainAttrs_list PySem.F.slot_list_append PySem.F.type_list_append md_append (qv 4) (qa_cons (qv 6) qa_nil))))))))))
      (qss_one (qs_ret (qv 4)))))))), fun ds G R h => ?_⟩)
  · unfold sp__law_names at h; split at h; rfl; exact h.elim
  · unfold sp__law_names at h
    split at h
    · rename_i s m
      obtain ⟨n, o, e, ho, hn, hm, hm2, h⟩ := h
      simp only [dSeq, dAsg, dC, dName, dLst, dCons, dNil, newL, startD, List.map_cons, List.map_nil, List.length_cons, List.length_nil, List.replicate, List.cons_append, List.nil_append, Nat.zero_add, Nat.reduceAdd, Nat.reduceSub, List.set_cons_zero, List.set_cons_succ, dOp, dVar, List.getElem?_cons_zero, List.getElem?_cons_succ, dAdd, lstOf]
      refine ⟨by decide, by decide, by decide, by decide, fun p np => ?_⟩
      have hsp : s ≠ p := gne e np
      simp only [dFor, dRng1, dCons, dNil, dVar, List.getElem?_cons_zero, List.getElem?_cons_succ]
      refine ⟨by omega, by omega, ?_⟩
      show dForGo _ _ _ _ (rng 0 m.toNat) [some (D.ref s), some (D.int m), some (D.str letters), some (D.lst (someZ.map D.str)), some (D.ref p), none, none, none, none] _
      refine for_go (fun rest σ G' => ∃ names o' x5 x6 x7 x8, σ = [some (D.ref s), some (D.int m), some (D.str letters), some (D.lst (someZ.map D.str)), some (D.ref p), x5, x6, x7, x8] ∧ G' = gup (gup G p (.lst (names.map D.str))) s o' ∧ SackO (n + 13 * names.length) o' ∧ names.length + rest.length = m.toNat ∧ NamesOk names) ?turn ?fin _ _ _ ?init
      case init =>
        refine ⟨[], o, none, none, none, none, rfl, ?_, ho.mono (by simp), by rw [rng_length]; simp, ⟨fun z hz => (by cases hz), List.nodup_nil⟩⟩
        exact (gup_self (by rw [gup_ne hsp]; exact e)).symm
      case fin =>
        rintro σ G' ⟨names, o', x5, x6, x7, x8, rfl, rfl, hs, hl, hok⟩
        refine ⟨True.intro, ?_⟩
        simp only [dRet, dVar, List.getElem?_cons_zero, List.getElem?_cons_succ]
        have hl' : names.length = m.toNat := by simpa using hl
        have hp0 : gup G s o' p = none := by rw [gup_ne hsp.symm]; exact np
        refine ret_lst (ds := names.map D.str) (G0 := gup G s o') (by rw [gup_ne hsp.symm, gup_same]) ?_ hp0 (h names o' hl' hok (hs.mono (by omega)))
        rw [gup_comm hsp.symm]
        exact Sub.new hp0
      case turn =>
        rintro x rest σ G' ⟨names, o', x5, x6, x7, x8, rfl, rfl, hs, hl, hok⟩
        refine ⟨True.intro, fun N hN => ?_⟩
        have hGp : ∀ o1 L, (gup (gup G p (.lst L)) s o1) p = some (.lst L) := fun _ _ => by rw [gup_ne hsp.symm, gup_same]
        have hlen : names.length ≤ 5 := by simp only [List.length_cons] at hl; omega
        simp only [dName, List.set_cons_zero, List.set_cons_succ]
        -- name = some[..]
        refine seq_cut (fun σ' G' => ∃ z o1, σ' = [some (D.ref s), some (D.int m), some (D.str letters), some (D.lst (someZ.map D.str)), some (D.ref p), some x, some (.str z), x7, x8] ∧ G' = gup (gup G p (.lst (names.map D.str))) s o1 ∧ SackO (n + 13 * names.length + 1) o1 ∧ nameOk z = true) ?_ (fun N1 hN1 => ?_)
        rotate_left
        · walk_at "d"
          refine ⟨_, _, gup_same, hs, by omega, by decide, by decide, fun r o1 hr ho1 => ?_⟩
          rw [gup_gup]
          obtain ⟨z, ez, hz⟩ := someZ_at r (by omega)
          simp only [dIx, seqOf, lstOf, ez]
          exact hN1 _ _ ⟨z, o1, rfl, rfl, ho1, hz⟩
        rintro σ G' ⟨z, o1, rfl, rfl, ho1, hz⟩
        -- if .. name = ''.join(..)
        refine seq_cut (fun σ' G' => ∃ z o1 x8, σ' = [some (D.ref s), some (D.int m), some (D.str letters), some (D.lst (someZ.map D.str)), some (D.ref p), some x, some (.str z), x7, x8] ∧ G' = gup (gup G p (.lst (names.map D.str))) s o1 ∧ SackO (n + 13 * names.length + 11) o1 ∧ nameOk z = true) ?_ (fun N1 hN1 => ?_)
        rotate_left
        · walk_at "d"
          refine ⟨_, _, gup_same, ho1, by omega, by decide, by decide, fun r o2 hr ho2 => ?_⟩
          rw [gup_gup]
          simp only [dEq, dEqW, id]
          by_cases hr0 : (r : Int) = 0
          · rw [decide_eq_true hr0]
            refine ⟨rfl, ?_⟩
            refine ⟨_, _, gup_same, ho2, by omega, by decide, by decide, fun r3 o3 hr3 ho3 => ?_⟩
            rw [gup_gup]
            simp only [dAdd]
            refine ⟨by omega, by omega, by rw [rng_length]; exact small_line (by omega), ?_⟩
            refine lc_go (fun xs acc G' => ∃ cs o4, acc = (cs.map fun c => (⟨#[c]⟩ : Str)).map D.str ∧ (∀ c ∈ cs, low c = true) ∧ G' = gup (gup G p (.lst (names.map D.str))) s o4 ∧ SackO (n + 13 * names.length + 3 + cs.length) o4 ∧ cs.length + xs.length = (1 + (r3 : Int)).toNat) ?_ ?_ _ _ _ ⟨[], o3, rfl, (fun c hc => by cases hc), rfl, ho3.mono (by simp), by rw [rng_length]; simp⟩
            · rintro y ys acc G' ⟨cs, o4, rfl, hcs, rfl, ho4, hl4⟩
              refine ⟨True.intro, fun N2 hN2 => ?_⟩
              walk_at "d"
              simp only [List.length_cons] at hl4
              refine ⟨_, _, gup_same, ho4, by omega, by decide, by decide, fun r5 o5 hr5 ho5 => ?_⟩
              rw [gup_gup]
              simp only [dIx, letters_at r5 (by omega)]
              refine ⟨by decide +kernel, hN2 _ _ ⟨cs ++ [97 + r5], o5, by simp, ?_, rfl, ho5.mono (by simp; omega), by simp; omega⟩⟩
              intro c hc
              rcases List.mem_append.mp hc with hc | hc
              · exact hcs c hc
              · rw [List.mem_singleton] at hc; subst hc; exact low_at (by omega)
            · rintro acc G' ⟨cs, o4, rfl, hcs, rfl, ho4, hl4⟩
              refine ⟨True.intro, ?_⟩
              simp only [dJoin, seqOf, lstOf, Option.bind_some, strsOf_map]
              have hl5 : cs.length = (1 + (r3 : Int)).toNat := by simpa using hl4
              have hsum : ((cs.map fun c => (⟨#[c]⟩ : Str)).map (·.length)).sum = cs.length := by
                clear hcs hl4 hl5 ho4
                induction cs with
                | nil => rfl
                | cons c cs ih =>
                  simp only [List.map_cons, List.sum_cons, List.length_cons, ih]
                  show 1 + cs.length = cs.length + 1
                  omega
              have hj : cds (Txt.join (Str.ofString "") (cs.map fun c => (⟨#[c]⟩ : Str))) = cs := by
                rw [cds_join0 (by decide +kernel)]
                clear hcs hl4 hl5 ho4 hsum
                induction cs with
                | nil => rfl
                | cons c cs ih =>
                  simp only [List.map_cons, List.flatten_cons]
                  rw [ih]; rfl
              refine ⟨?_, hN1 _ _ ⟨_, o4, _, rfl, rfl, ho4.mono (by omega), ?_⟩⟩
              · rw [hsum, show (Str.ofString "").length = 0 by decide +kernel]; simp; omega
              · rw [nameOk_iff, hj]
                exact ⟨by omega, hcs⟩
          · rw [decide_eq_false hr0]
            exact hN1 _ _ ⟨z, o2, x8, rfl, rfl, ho2.mono (by omega), hz⟩
        rintro σ G' ⟨z, o1, x8, rfl, rfl, ho1, hz⟩
        -- if found != [] ..
        refine seq_cut (fun σ' G' => ∃ z o1, σ' = [some (D.ref s), some (D.int m), some (D.str letters), some (D.lst (someZ.map D.str)), some (D.ref p), some x, some (.str z), x7, x8] ∧ G' = gup (gup G p (.lst (names.map D.str))) s o1 ∧ SackO (n + 13 * names.length + 13) o1 ∧ nameOk z = true) ?_ (fun N1 hN1 => ?_)
        rotate_left
        · walk_at "d"
          refine ⟨by decide, ?_⟩
          have hpy : pyD (.lst (names.map D.str)) = true := by
            simp only [pyD]
            refine pyDs_of fun d hd => ?_
            obtain ⟨y, hy, rfl⟩ := List.mem_map.mp hd
            simp only [pyD, List.all_eq_true, decide_eq_true_eq]
            intro c hc
            have := (nameOk_iff.mp (hok.ok y hy)).2 c hc
            simp only [low, Bool.and_eq_true, decide_eq_true_eq] at this
            omega
          have hdep : depD (.lst (names.map D.str)) ≤ 64 := by
            simp only [depD]
            have := depDs_le (ds := names.map D.str) (n := 0) fun d hd => by
              obtain ⟨y, hy, rfl⟩ := List.mem_map.mp hd
              exact Nat.le_refl _
            omega
          unfold dNe
          rw [eqW_ref (hGp _ _), eqW_pure hpy (by simp only [pyD, pyDs]) hdep (by decide)]
          cases hnm : names with
          | nil =>
            simp only [List.map_nil, eqD, eqDs, Bool.not_true]
            exact hN1 _ _ ⟨z, o1, rfl, by rw [hnm]; rfl, ho1.mono (by omega), hz⟩
          | cons y ys =>
            rw [← hnm]
            have e0 : eqD (.lst (names.map D.str)) (.lst []) = false := by rw [hnm]; simp only [List.map_cons, eqD, eqDs]
            simp only [e0, Bool.not_false]
            refine ⟨_, _, gup_same, ho1, by omega, by decide, by decide, fun r o2 hr ho2 => ?_⟩
            rw [gup_gup]
            simp only [dEq, dEqW, id]
            by_cases hr0 : (r : Int) = 0
            · rw [decide_eq_true hr0]
              have hne : names ≠ [] := by rw [hnm]; exact List.cons_ne_nil _ _
              have hlast : (names.map D.str).getLast? = some (.str (names.getLast hne)) := by
                rw [List.getLast?_map, List.getLast?_eq_getLast hne]; rfl
              have hlok := nameOk_iff.mp (hok.ok _ (List.getLast_mem hne))
              simp only [dNeg, dIx, seqOf, lstOf, hGp, atI_neg1 hlast, dSl]
              refine ⟨by rw [← cds_len]; exact small_line (by omega), ?_⟩
              refine ⟨_, _, gup_same, ho2, by omega, by decide, by decide, fun r5 o5 hr5 ho5 => ?_⟩
              rw [gup_gup]
              simp only [letters_at r5 (by omega), dAdd]
              have hcut : cds (cutS (names.getLast hne) none (some (-1))) = (cds (names.getLast hne)).dropLast := by rw [cds_cut, cut_init]
              have hcl : (cutS (names.getLast hne) none (some (-1))).length ≤ 7 := by
                rw [← cds_len, hcut, List.length_dropLast]; omega
              refine ⟨by decide +kernel, Nat.le_trans (Nat.add_le_add_right hcl 1) (by decide), hN1 _ _ ⟨_, o5, rfl, rfl, ho5.mono (by omega), ?_⟩⟩
              rw [nameOk_iff, cds_app, hcut]
              have e1 : cds ⟨#[97 + r5]⟩ = [97 + r5] := rfl
              rw [e1]
              refine ⟨by simp only [List.length_append, List.length_dropLast, List.length_cons, List.length_nil]; omega, fun c hc => ?_⟩
              rcases List.mem_append.mp hc with hc | hc
              · rw [List.dropLast_eq_take] at hc
                exact hlok.2 c (List.mem_of_mem_take hc)
              · rw [List.mem_singleton] at hc; subst hc; exact low_at (by omega)
            · rw [decide_eq_false hr0]
              exact hN1 _ _ ⟨z, o2, rfl, rfl, ho2.mono (by omega), hz⟩
        rintro σ G' ⟨z, o1, rfl, rfl, ho1, hz⟩
        -- step = 0; while ..; append
        walk_at "d"
        refine ⟨6 + 1, wh_go (fun k σ' G' => ∃ (t : Nat) (y : Str), k + t = 6 ∧ σ' = [some (D.ref s), some (D.int m), some (D.str letters), some (D.lst (someZ.map D.str)), some (D.ref p), some x, some (.str y), some (.int t), x8] ∧ G' = gup (gup G p (.lst (names.map D.str))) s o1 ∧ nameOk y = true ∧ (t = 0 ∨ y = zn (t - 1)) ∧ ∀ i, i + 1 < t → zn i ∈ names) ?_ 6 _ _ ⟨0, z, rfl, rfl, rfl, hz, .inl rfl, fun i hi => by omega⟩⟩
        rintro k σ' G' ⟨t, y, hk, rfl, rfl, hy, hyt, hin⟩ N1 hN1
        walk_at "d"
        simp only [dIn, dInW, seqOf, lstOf, hGp, flatD, flat_strs', in_strs, id]
        refine ⟨True.intro, True.intro, ?_⟩
        by_cases hmem : y ∈ names
        · rw [decide_eq_true hmem]
          have hall : ∀ i, i < t → zn i ∈ names := by
            intro i hi
            by_cases h1 : i + 1 < t
            · exact hin i h1
            · have : i = t - 1 := by omega
              rcases hyt with h2 | h2
              · omega
              · rw [this, ← h2]; exact hmem
          have hle : t ≤ names.length := by
            have := nodup_sub (l1 := (List.range t).map zn) (l2 := names) (by
              refine List.pairwise_map.mpr (List.nodup_range.imp fun h e => h (zn_inj e))) (fun w hw => by
              obtain ⟨i, hi, rfl⟩ := List.mem_map.mp hw
              exact hall i (List.mem_range.mp hi))
            simpa using this
          simp only [dIx, letters_at t (by omega), dAdd]
          refine ⟨by decide +kernel, (by show (Str.ofString "z").length + 1 ≤ sizeLine; decide +kernel), ?_⟩
          refine hN1 (k - 1) _ _ (by omega) ⟨t + 1, zn t, by omega, rfl, rfl, zn_ok (by omega), .inr rfl, fun i hi => hall i (by omega)⟩
        · rw [decide_eq_false hmem]
          simp only [mty, hGp, dAppend]
          refine ⟨True.intro, by rw [List.length_map]; exact small1000 (by omega), hN _ _ ⟨names ++ [y], o1, _, _, _, _, rfl, ?_, ho1.mono (by simp; omega), by simp only [List.length_append, List.length_cons, List.length_nil] at hl ⊢; omega, ?_, ?_⟩⟩
          · rw [gup_comm hsp, gup_gup, List.map_append]; rfl
          · intro w hw
            rcases List.mem_append.mp hw with hw | hw
            · exact hok.ok w hw
            · rw [List.mem_singleton] at hw; subst hw; exact hy
          · rw [List.nodup_append]
            exact ⟨hok.nd, by simp, fun a ha b hb => by rw [List.mem_singleton] at hb; subst hb; intro e; subst e; exact hmem ha⟩
    · exact h.elim
theorem go_pull {s : Addr} {m : Int} {G : Gp} {R : DK} {o : GO} {n : Nat} (e : G s = some o) (h : SackO n o) (hn : n ≤ 1000000) (hm : 1 ≤ m) (hm2 : m < 2 ^ 64) (k : ∀ (r : Nat) o', (r : Int) < m → SackO (n + 1) o' → R (.int r) (gup G s o')) : sp__law_pull [.ref s, .int m] G R := ⟨n, o, e, h, hn, hm, hm2, k⟩
theorem pick {xs : List D} {r : Nat} {k : D → Prop} (hr : r < xs.length) (h : ∀ x ∈ xs, k x) : isN (atI xs (r : Int)) k := by
  rw [atI_nat (j := r) (v := xs[r]) (List.getElem?_eq_getElem hr)]
  exact h _ (List.getElem_mem hr)
theorem tupleN_l {zs : List Str} {G : Gp} {R : DK} : dTupleN [.lst (zs.map D.str)] G R = R (.nt zs) G := by
  show (match (lstOf G (.lst (zs.map D.str))).bind strsOf with | some zs => R (.nt zs) G | none => False) = _
  have : (lstOf G (.lst (zs.map D.str))).bind strsOf = some zs := strsOf_strs zs
  rw [this]
local macro_rules | `(tactic| walk_at "x") => `(tactic| first | refine go_pull (by first | exact gup_same | assumption | fail) (by assumption) (by omega) (by walk_at "side") (by walk_at "side") fun _ _ _ _ => ?_ | fail)
/-! ### machines drawn -/
/-- a machine, by its parts -/
structure MachP (b : Int) (names : List Str) (h al mo c : Int) : Prop where
  b1 : 1 ≤ b
  b2 : b ≤ 8
  n1 : 1 ≤ names.length
  n2 : names.length ≤ 6
  nm : NamesOk names
  h1 : 0 ≤ h
  h2 : h ≤ 12
  a1 : 1 ≤ al
  a2 : al ≤ 3
  m1 : 1 ≤ mo
  m2 : mo ≤ 3
  c1 : 0 ≤ c
  c2 : c ≤ 2 ^ b.toNat
structure Mach where
  b : Int
  names : List Str
  h : Int
  al : Int
  mo : Int
  c : Int
/-- a machine: its names are a tuple whose methods may be called -/
def Mach.d (M : Mach) : D := .tup [.int M.b, .nt M.names, .int M.h, .int M.al, .int M.mo, .int M.c]
def Mach.ok (M : Mach) : Prop := MachP M.b M.names M.h M.al M.mo M.c
theorem top_le {b : Int} (h1 : 1 ≤ b) (h2 : b ≤ 8) : (2 : Int) ≤ 2 ^ b.toNat ∧ (2 : Int) ^ b.toNat ≤ 256 := by
  have : b = 1 ∨ b = 2 ∨ b = 3 ∨ b = 4 ∨ b = 5 ∨ b = 6 ∨ b = 7 ∨ b = 8 := by omega
  rcases this with rfl | rfl | rfl | rfl | rfl | rfl | rfl | rfl <;> decide
def sp__law_own : DSp := fun ds G R => ∃ s n o, ds = [.ref s] ∧ G s = some o ∧ SackO n o ∧ n ≤ 800000 ∧ ∀ (M : Mach) o', M.ok → SackO (n + 120) o' → R M.d (gup G s o')
theorem go_names {s : Addr} {m : Int} {G : Gp} {R : DK} {o : GO} {n : Nat} (e : G s = some o) (h : SackO n o) (hn : n ≤ 900000) (hm : 1 ≤ m) (hm2 : m ≤ 6) (k : ∀ (names : List Str) o', (names.length : Int) = m → NamesOk names → SackO (n + 100) o' → R (.lst (names.map .str)) (gup G s o')) : sp__law_names [.ref s, .int m] G R :=
  ⟨n, o, e, h, by omega, by omega, by omega, fun names o' h1 h2 h3 => k names o' (by omega) h2 h3⟩
theorem ok__law_own {P : Program} {w : World} {K : PySem.W.Frag} {mg : Str → Option Value} {base : Heap} {a : Ad} (T : Tx w K mg a) : FnD P w K mg base 3 a.f__law_own a.fd__law_own ["sack"] sp__law_own := by
  refine fun_okD T.F__law_own sc__law_own (fun ds G R h => ?_) (fun cdv A outer s H hr => ⟨_, (qss_cons (qs_set (i := 1) sc__law_own.nd rfl (.inl rfl) (qe_op (od_add false) qe_int (qe_call (ok__law_pull T) (hr.mono (by omega)) rfl T.g__law_pull T.F__law_pull.kp T.b__law_pull (qa_cons (qv 0) (qa_cons qe_int qa_nil)))))
      (qss_cons (qs_set (i := 2) sc__law_own.nd rfl (.inl rfl) (qe_call (ok__law_names T) (hr.mono (by omega)) rfl T.g__law_names T.F__law_names.kp T.b__law_names (qa_cons (qv 0) (qa_cons (qe_op (od_add false) qe_int (qe_call (ok__law_pull T) (hr.mono (by omega)) rfl T.g__law_pull T.F__law_pull.kp T.b__law_pull (qa_cons (qv 0) (qa_cons qe_int qa_nil)))) qa_nil))))
      (qss_cons (qs_set (i := 3) sc__law_own.nd rfl (.inl rfl) (qe_ix xd_ix (qe_lst false (qa_cons (qe_call (ok__law_pull T) (hr.mono (by omega)) rfl T.g__law_pull T.F__law_pull.kp T.b__law_pull (qa_cons (qv 0) (qa_cons qe_int qa_nil))) (qa_cons (qe_call (ok__law_pull T) (hr.mono (by omega)) rfl T.g__law_pull T.F__law_pull.kp T.b__law_pull (qa_cons (qv 0) (qa_cons qe_int qa_nil))) qa_nil))) (qe_call (ok__law_pull T) (hr.mono (by omega)) rfl T.g__law_pull T.F__law_pull.kp T.b__law_pull (qa_cons (qv 0) (qa_cons qe_int qa_nil))) (fun _ _ => rfl)))
      (qss_cons (qs_set (i := 4) sc__law_own.nd rfl (.inl rfl) (qe_op od_shl qe_int (qv 1)))
      (qss_cons (qs_set (i := 5) sc__law_own.nd rfl (.inl rfl) (qe_ix xd_ix (qe_lst false (qa_cons qe_int (qa_cons (qe_call (ok__law_pull T) (hr.mono (by omega)) rfl T.g__law_pull T.F__law_pull.kp T.b__law_pull (qa_cons (qv 0) (qa_cons (qe_op (od_add false) (qe_callB (cd_min2 rfl) rfl T.n_min (by decide +kernel) (qa_cons (qv 4) (qa_cons qe_int qa_nil))) qe_int) qa_nil))) (qa_cons (qv 4) (qa_cons (qe_call (ok__law_pull T) (hr.mono (by omega)) rfl T.g__law_pull T.F__law_pull.kp T.b__law_pull (qa_cons (qv 0) (qa_cons (qe_op (od_add false) (qv 4) qe_int) qa_nil))) qa_nil))))) (qe_call (ok__law_pull T) (hr.mono (by omega)) rfl T.g__law_pull T.F__law_pull.kp T.b__law_pull (qa_cons (qv 0) (qa_cons qe_int qa_nil))) (fun _ _ => rfl)))
      (qss_one (qs_ret (qe_tup (qa_cons (qv 1) (qa_cons (qe_callTy cd_tupleN rfl T.n_tuple (by decide +kernel) (qa_cons (qv 2) qa_nil)) (qa_cons (qv 3) (qa_cons (qe_op (od_add false) qe_int (qe_call (ok__law_pull T) (hr.mono (by omega)) rfl T.g__law_pull T.F__law_pull.kp T.b__law_pull (qa_cons (qv 0) (qa_cons qe_int qa_nil)))) (qa_cons (qe_op (od_add false) qe_int (qe_call (ok__law_pull T) (hr.mono (by omega)) rfl T.g__law_pull T.F__law_pull.kp T.b__law_pull (qa_cons (qv 0) (qa_cons qe_int qa_nil)))) (qa_cons (qv 5) qa_nil)))))))))))))), fun ds G R h => ?_⟩)
  · obtain ⟨s, n, o, rfl, _⟩ := h; rfl
  · obtain ⟨s, n, o, rfl, e, ho, hn, h⟩ := h
    walk_at "go"
    rename_i r1 o1 hr1 ho1 r2 o2 hr2 ho2
    refine go_names gup_same ho2 (by omega) (by omega) (by omega) fun names o3 hl hnm ho3 => ?_
    walk_at "go"
    rename_i r4 o4 hr4 ho4 r5 o5 hr5 ho5 r6 o6 hr6 ho6
    refine pick (by walk_at "side") fun x hx => ?_
    obtain ⟨hv, rfl, hh1, hh2⟩ : ∃ hv : Int, x = .int hv ∧ 0 ≤ hv ∧ hv ≤ 12 := by
      simp only [List.mem_cons, List.not_mem_nil, or_false] at hx
      rcases hx with rfl | rfl
      · exact ⟨_, rfl, by omega, by omega⟩
      · exact ⟨_, rfl, by omega, by omega⟩
    have htop := top_le (b := 1 + (r1 : Int)) (by omega) (by omega)
    have hsh : CShl 1 (1 + (r1 : Int)) := shl_ok (by omega) (by omega)
    walk_at "go"
    rename_i r7 o7 hr7 ho7 r8 o8 hr8 ho8 r9 o9 hr9 ho9
    simp only [Int.one_mul] at hr7 hr8 ⊢
    generalize etop : (2 : Int) ^ (1 + (r1 : Int)).toNat = top at htop hr7 hr8 ⊢
    refine pick (by walk_at "side") fun x hx => ?_
    obtain ⟨cv, rfl, hc1, hc2⟩ : ∃ cv : Int, x = .int cv ∧ 0 ≤ cv ∧ cv ≤ top := by
      simp only [List.mem_cons, List.not_mem_nil, or_false] at hx
      rcases hx with rfl | rfl | rfl | rfl
      · exact ⟨_, rfl, by omega, by omega⟩
      · exact ⟨_, rfl, by omega, by split at hr7 <;> omega⟩
      · exact ⟨_, rfl, by omega, by omega⟩
      · exact ⟨_, rfl, by omega, by omega⟩
    walk_at "go"
    rw [tupleN_l]
    walk_at "go"
    rename_i ra oa hra hoa rb ob hrb hob
    exact h ⟨1 + r1, names, hv, 1 + ra, 1 + rb, cv⟩ ob ⟨by simp only; omega, by simp only; omega, by simp only; omega, by simp only; omega, hnm, hh1, hh2, by simp only; omega, by simp only; omega, by simp only; omega, by simp only; omega, hc1, by simp only [etop]; exact hc2⟩ (hob.mono (by omega))
theorem go_own {s : Addr} {G : Gp} {R : DK} {o : GO} {n : Nat} (e : G s = some o) (h : SackO n o) (hn : n ≤ 800000) (k : ∀ (M : Mach) o', M.ok → SackO (n + 120) o' → R M.d (gup G s o')) : sp__law_own [.ref s] G R := ⟨s, n, o, rfl, e, h, hn, k⟩
def Plc.ok (M : Mach) : Plc → Prop
  | .reg x => x ∈ M.names | .hid k => (k : Int) < M.h
def opL : List Str := ["add", "sub", "and", "or", "xor", "less", "same"]
def Ord.ok (M : Mach) : Ord → Prop
  | .alu op to a b => op ∈ opL ∧ to.ok M ∧ a.ok M ∧ b.ok M
  | .move to a => to.ok M ∧ a.ok M
  | .put to w => to.ok M ∧ (w : Int) < 2 ^ M.b.toNat
  | .load to a => to.ok M ∧ a.ok M
  | .store to a => to.ok M ∧ a.ok M
theorem name_len {z : Str} (h : nameOk z = true) : z.length ≤ 100 := by
  have := (nameOk_iff.mp h).1.2
  rw [cds_len] at this
  omega
def sp__law_word : DSp := fun ds G R => ∃ s M n o, ds = [.ref s, Mach.d M] ∧ M.ok ∧ G s = some o ∧ SackO n o ∧ n ≤ 900000 ∧ ∀ (v : Nat) o', (v : Int) < 2 ^ M.b.toNat → SackO (n + 2) o' → R (.int v) (gup G s o')
theorem ok__law_word {P : Program} {w : World} {K : PySem.W.Frag} {mg : Str → Option Value} {base : Heap} {a : Ad} (T : Tx w K mg a) : FnD P w K mg base 2 a.f__law_word a.fd__law_word ["sack", "own"] sp__law_word := by
  refine fun_okD T.F__law_word sc__law_word (fun ds G R h => ?_) (fun cdv A outer s H hr => ⟨_, (qss_cons (qs_set (i := 2) sc__law_word.nd rfl (.inl rfl) (qe_op od_shl qe_int (qe_ix xd_ix (qv 1) qe_int (fun _ _ => rfl))))
      (qss_one (qs_ret (qe_ix xd_ix (qe_lst false (qa_cons qe_int (qa_cons qe_int (qa_cons (qe_op od_sub (qv 2) qe_int) (qa_cons (qe_call (ok__law_pull T) (hr.mono (by omega)) rfl T.g__law_pull T.F__law_pull.kp T.b__law_pull (qa_cons (qv 0) (qa_cons (qv 2) qa_nil))) qa_nil))))) (qe_call (ok__law_pull T) (hr.mono (by omega)) rfl T.g__law_pull T.F__law_pull.kp T.b__law_pull (qa_cons (qv 0) (qa_cons qe_int qa_nil))) (fun _ _ => rfl))))), fun ds G R h => ?_⟩)
  · obtain ⟨s, M, n, o, rfl, _⟩ := h; rfl
  · obtain ⟨s, M, n, o, rfl, hM, e, ho, hn, h⟩ := h
    have htop := top_le hM.b1 hM.b2
    have hsh : CShl 1 M.b := shl_ok (by have := hM.b1; omega) (by have := hM.b2; omega)
    unfold Mach.d
    walk_at "go"
    rename_i r1 o1 hr1 ho1 r2 o2 hr2 ho2
    refine pick (by walk_at "side") fun x hx => ?_
    obtain ⟨v, rfl, hv⟩ : ∃ v : Nat, x = .int v ∧ (v : Int) < 2 ^ M.b.toNat := by
      simp only [List.mem_cons, List.not_mem_nil, or_false, Int.one_mul] at hx hr1
      rcases hx with rfl | rfl | rfl | rfl
      · exact ⟨0, rfl, by omega⟩
      · exact ⟨1, rfl, by omega⟩
      · exact ⟨(2 ^ M.b.toNat - 1 : Int).toNat, by congr 1; omega, by omega⟩
      · exact ⟨_, rfl, by omega⟩
    walk_at "go"
    exact h v _ hv ho2
theorem go_word {s : Addr} {M : Mach} {G : Gp} {R : DK} {o : GO} {n : Nat} (hM : M.ok) (e : G s = some o) (h : SackO n o) (hn : n ≤ 900000) (k : ∀ (v : Nat) o', (v : Int) < 2 ^ M.b.toNat → SackO (n + 2) o' → R (.int v) (gup G s o')) : sp__law_word [.ref s, M.d] G R := ⟨s, M, n, o, rfl, hM, e, h, hn, k⟩
def sp__law_spot : DSp := fun ds G R => ∃ s M n o, ds = [.ref s, Mach.d M] ∧ M.ok ∧ G s = some o ∧ SackO n o ∧ n ≤ 900000 ∧ ∀ (p : Plc) o', p.ok M → SackO (n + 2) o' → R p.d (gup G s o')
-- _law_spot: not reached
theorem go_spot {s : Addr} {M : Mach} {G : Gp} {R : DK} {o : GO} {n : Nat} (hM : M.ok) (e : G s = some o) (h : SackO n o) (hn : n ≤ 900000) (k : ∀ (p : Plc) o', p.ok M → SackO (n + 2) o' → R p.d (gup G s o')) : sp__law_spot [.ref s, M.d] G R := ⟨s, M, n, o, rfl, hM, e, h, hn, k⟩
local macro_rules | `(tactic| walk_at "x") => `(tactic| first | refine go_pull (by first | exact gup_same | assumption | fail) (by assumption) (by omega) (by walk_at "side") (by walk_at "side") fun _ _ _ _ => ?_ | refine go_spot (by assumption) (by first | exact gup_same | assumption | fail) (by assumption) (by omega) fun _ _ _ _ => ?_ | refine go_word (by assumption) (by first | exact gup_same | assumption | fail) (by assumption) (by omega) fun _ _ _ _ => ?_ | fail)
-- _law_order: not reached
end K19


set_option Elab.async false
set_option linter.all false
set_option maxRecDepth 100000
set_option maxHeartbeats 4000000
set_option autoImplicit false
namespace K19
open PySem PySem.Spec PyProof.Rows L2 DL
local macro_rules | `(tactic| walk_at "d") => `(tactic| dsimp only [dSeq, dNext, dIfS, dRet, dRetN, dAsg, dName, dVar, dC, dOp, dUn, dChain, dB, dAnd, dOr, dNot, dAndV, dOrV, dNotV, dIf, dNil, dCons, dTup, dLst, newL, dCallB, dCall, dCallK, dDrop, dAug, dAugS, dSub, dM, dM0, dSlice, dNoPart, dPart, dLc, dYes, dFor, dIter, dRng1, dEnum, dZipM, srcD, dStar, dInK, dIxK, dLenSet, dRev,
  startD, wipeD, setAll, dNames, List.map_cons, List.map_nil, List.length_cons, List.length_nil, List.replicate, List.cons_append, List.nil_append, List.append_nil, List.getElem?_cons_zero, List.getElem?_cons_succ, List.set_cons_zero, List.set_cons_succ, List.map, Nat.zero_add, Nat.reduceAdd, Nat.reduceSub, Nat.sub_self, Nat.succ_sub_succ_eq_sub])
local macro_rules | `(tactic| walk_at "o") => `(tactic| simp only [dAdd_ii, dAdd_ss, dAdd_tt, dAdd_ll, dMinus_ii, dMul_ii, dMod_ii, dFdiv_ii, dPow_ii, dShl_ii, dNeg_i, dIadd_ii, dLt_ii, dLe_ii, dGt_ii, dGe_ii, dEq_ii, dNe_ii, dEq_ss, dNe_ss, dEq_bb, dNe_bb, dIs_n, dIsNot_n, dMax2_ii, dMin2_ii, dTuple_t, dTuple_l, dList_t, dList_l, dIx_t, dIx_l, dIx_s, dSl_t, dSl_l, dSl_s, newL_f, len_tup, len_lst])
local macro_rules | `(tactic| walk_at "w") => `(tactic| dsimp only [x_var, x_c, x_op, x_un, x_b, x_and, x_or, x_not, x_chain, x_andV, x_orV, x_notV, x_if, x_nil, x_cons, x_tup, x_lst0, x_lst1, x_callB, x_call, x_callK, x_next, x_seq, x_break, x_cont, x_drop, x_ret, x_ifS, x_asg, x_name, x_names, x_sub, x_aug, x_augS, x_for, x_lc0, x_lc1, x_yes, x_noPart, x_part, x_slice, x_iter, it_t, it_l, it_n, it_s, it_r, x_rng1, x_enum, x_rev, x_m, x_m0, x_mX, x_zip, x_star_t, x_star_l, x_lenSet, x_forgo0, x_lcgo0, x_while, x_par, x_sortK,
  br_t, br_f, isB_bl, isI_int, isN_some, slo_some, atL_lst, ix_t, ix_l, ix_n,
  dAdd_ii, dAdd_ss, dAdd_tt, dAdd_ll, dMinus_ii, dMul_ii, dMod_ii, dFdiv_ii, dPow_ii, dShl_ii, dNeg_i, dIadd_ii, dLt_ii, dLe_ii, dGt_ii, dGe_ii, ltE_ii, ltE_ss, srcD, isi_i, isi_s, isi_b, isi_n, isi_t, isi_nt, isi_l, isi2_i, isi2_s, isi2_b, isi2_n, isi2_t, isi2_nt, isi2_l, inon_n, inon_i, inon_s, inon_b, inon_t, inon_l, inon_r, dEq_ii, dNe_ii, dEq_ss, dNe_ss, dEq_bb, dNe_bb, dIs_n, dIsNot_n, dMax2_ii, dMin2_ii, dTuple_t, dTuple_l, dList_t, dList_l, dSl_t, dSl_l, dSl_s, newL_f, newL_t, app_r, int_b, int_i, strI_i, strX_i, strX_s,
  startD, wipeD, setAll, permL, List.filterMap, List.map_cons, List.map_nil, List.length_cons, List.length_nil, List.replicate, List.cons_append, List.nil_append, List.append_nil, List.getElem?_cons_zero, List.getElem?_cons_succ, List.set_cons_zero, List.set_cons_succ, List.map, Nat.zero_add, Nat.reduceAdd, Nat.reduceSub, Nat.sub_self, Nat.succ_sub_succ_eq_sub])
local macro_rules | `(tactic| walk_at "v") => `(tactic| simp only [ofString_inj, String.reduceEq, at_0, at_1, at_2, at_3, at_4, at_5, isN_some, isBB_bl, isB_bl, br_t, br_f, br_not, br_and, br_or, br_dec, ix_r, len_tup, len_lst, len_nt, ltE_key, gup_gup, gup_same, starD_one, cut1, cut2, kt1, kt2, kt3, kt4, kt5, kt6, isTy, String.reduceBEq, Bool.or_false, Bool.false_or, Bool.true_or, Bool.or_true, Bool.and_false, Bool.false_and, Bool.true_and, Bool.and_true, Bool.not_true, Bool.not_false, decide_true, decide_false, eq_self_iff_true, Bool.false_eq_true, Int.reduceAdd, Int.add_zero, if_true, if_false, true_and, and_true])
local macro_rules | `(tactic| walk_at "side") => `(tactic| first | with_reducible assumption | omega | exact mty_up | exact True.intro | (simp only [List.mem_cons, ofString_inj, String.reduceEq, true_or, or_true, List.length_map]; done) | with_reducible exact (rfl : (_ : Nat) = _) | exact (rfl : (_ : Option String) = _) | (refine small_line ?_; omega) | (walk_at "ll"; first | omega | (refine small_line ?_; omega) | fail) | (exact log_small (by omega)) | fail)
local macro_rules | `(tactic| walk_at "x") => `(tactic| fail)
local macro_rules | `(tactic| walk_at "go") => `(tactic| repeat' (first | dsimp only [x_var, x_c, x_op, x_un, x_b, x_and, x_or, x_not, x_chain, x_andV, x_orV, x_notV, x_if, x_nil, x_cons, x_tup, x_lst0, x_lst1, x_callB, x_call, x_callK, x_next, x_seq, x_break, x_cont, x_drop, x_ret, x_ifS, x_asg, x_name, x_names, x_sub, x_aug, x_augS, x_for, x_lc0, x_lc1, x_yes, x_noPart, x_part, x_slice, x_iter, it_t, it_l, it_n, it_s, it_r, x_rng1, x_enum, x_rev, x_m, x_m0, x_mX, x_zip, x_star_t, x_star_l, x_lenSet, x_forgo0, x_lcgo0, x_while, x_par, x_sortK, br_t, br_f, isB_bl, isI_int, isN_some, slo_some, atL_lst, ix_t, ix_l, ix_n, dAdd_ii, dAdd_ss, dAdd_tt, dAdd_ll, dMinus_ii, dMul_ii, dMod_ii, dFdiv_ii, dPow_ii, dShl_ii, dNeg_i, dIadd_ii, dLt_ii, dLe_ii, dGt_ii, dGe_ii, ltE_ii, ltE_ss, srcD, isi_i, isi_s, isi_b, isi_n, isi_t, isi_nt, isi_l, isi2_i, isi2_s, isi2_b, isi2_n, isi2_t, isi2_nt, isi2_l, inon_n, inon_i, inon_s, inon_b, inon_t, inon_l, inon_r, dEq_ii, dNe_ii, dEq_ss, dNe_ss, dEq_bb, dNe_bb, dIs_n, dIsNot_n, dMax2_ii, dMin2_ii, dTuple_t, dTuple_l, dList_t, dList_l, dSl_t, dSl_l, dSl_s, newL_f, newL_t, app_r, int_b, int_i, strI_i, strX_i, strX_s, startD, wipeD, setAll, permL, List.filterMap, List.map_cons, List.map_nil, List.length_cons, List.length_nil, List.replicate, List.cons_append, List.nil_append, List.append_nil, List.getElem?_cons_zero, List.getElem?_cons_succ, List.set_cons_zero, List.set_cons_succ, List.map, Nat.zero_add, Nat.reduceAdd, Nat.reduceSub, Nat.sub_self, Nat.succ_sub_succ_eq_sub] | simp only [ofString_inj, String.reduceEq, at_0, at_1, at_2, at_3, at_4, at_5, isN_some, isBB_bl, isB_bl, br_t, br_f, br_not, br_and, br_or, br_dec, ix_r, len_tup, len_lst, len_nt, ltE_key, gup_gup, gup_same, starD_one, cut1, cut2, kt1, kt2, kt3, kt4, kt5, kt6, isTy, String.reduceBEq, Bool.or_false, Bool.false_or, Bool.true_or, Bool.or_true, Bool.and_false, Bool.false_and, Bool.true_and, Bool.and_true, Bool.not_true, Bool.not_false, decide_true, decide_false, eq_self_iff_true, Bool.false_eq_true, Int.reduceAdd, Int.add_zero, if_true, if_false, true_and, and_true] | walk_at "x" | with_reducible refine kont_go ?_ | with_reducible refine rt_sub (by assumption) ?_ | with_reducible refine rt_lst (by assumption) ?_ | with_reducible refine rt_drop (by assumption) ?_ | with_reducible refine rt_keep (by assumption) (by assumption) ?_ | with_reducible refine rt_same ?_ | (refine fun (p : Addr) (_ : _ = none) => ?_) | refine join_gor gup_same rfl (by walk_at "side") ?_ | with_reducible refine lc_cons ?_ | with_reducible refine for_cons ?_ | refine join_go rfl (by walk_at "side") ?_ | refine And.intro (by first | with_reducible assumption | omega | exact mty_up | exact True.intro | (simp only [List.mem_cons, ofString_inj, String.reduceEq, true_or, or_true, List.length_map]; done) | with_reducible exact (rfl : (_ : Nat) = _) | exact (rfl : (_ : Option String) = _) | (refine small_line ?_; omega) | (walk_at "ll"; first | omega | (refine small_line ?_; omega) | fail) | (exact log_small (by omega)) | fail) ?_ | fail))
local macro_rules | `(tactic| walk_at "ll") => `(tactic| simp only [List.length_map, List.length_append, List.length_cons, List.length_nil, List.map_cons, List.map_nil, List.sum_cons, List.sum_nil, len_app, rng_length, ll_0, ll_1, ll_2, ll_3, ll_4, ll_5, ll_6, ll_7, ll_8, ll_9, ll_10, ll_11, ll_12, ll_13, ll_14, ll_15, ll_16, ll_17, ll_18, ll_19, ll_20, ll_21, ll_22, ll_23, ll_24, ll_25, ll_26, ll_27, ll_28, ll_29, ll_30, ll_31, ll_32, ll_33, ll_34, ll_35, ll_36, ll_37, ll_38, ll_39, ll_40, ll_41, ll_42, ll_43, ll_44, ll_45, ll_46, ll_47, ll_48, ll_49, ll_50, ll_51, ll_52, ll_53, ll_54])
mutual
/-- data of no great lengths -/
def wid : D → Bool
  | .tup ds => decide (ds.length ≤ 1000) && wids ds
  | .lst ds => decide (ds.length ≤ 1000) && wids ds
  | _ => true
def wids : List D → Bool
  | [] => true
  | d :: ds => wid d && wids ds
end
theorem wids_mem : ∀ {ds : List D} {d : D}, wids ds = true → d ∈ ds → wid d = true
  | [], _, _, h => by cases h
  | x :: ds, d, h, hd => by
    simp only [wids, Bool.and_eq_true] at h
    rcases List.mem_cons.mp hd with rfl | hd
    · exact h.1
    · exact wids_mem h.2 hd
theorem pyDs_mem : ∀ {ds : List D} {d : D}, pyDs ds = true → d ∈ ds → pyD d = true
  | [], _, _, h => by cases h
  | x :: ds, d, h, hd => by
    simp only [pyDs, Bool.and_eq_true] at h
    rcases List.mem_cons.mp hd with rfl | hd
    · exact h.1
    · exact pyDs_mem h.2 hd
theorem depDs_mem' : ∀ {ds : List D} {d : D}, d ∈ ds → depD d ≤ depDs ds
  | [], _, h => by cases h
  | x :: ds, d, hd => by
    simp only [depDs]
    rcases List.mem_cons.mp hd with rfl | hd
    · omega
    · have := depDs_mem' hd; omega
mutual
theorem eqD_self : ∀ {d : D}, pyD d = true → eqD d d = true
  | .non, _ => rfl
  | .bl b, _ => by simp [eqD]
  | .int i, _ => by simp [eqD]
  | .str z, _ => by simp [eqD]
  | .tup ds, h => by simp only [eqD]; exact eqDs_self (by simpa only [pyD] using h)
  | .lst ds, h => by simp only [eqD]; exact eqDs_self (by simpa only [pyD] using h)
  | .nt _, h => by simp [pyD] at h
  | .ty _, h => by simp [pyD] at h
  | .ref _, h => by simp [pyD] at h
  | .any _, h => by simp [pyD] at h
theorem eqDs_self : ∀ {ds : List D}, pyDs ds = true → eqDs ds ds = true
  | [], _ => rfl
  | d :: ds, h => by
    simp only [pyDs, Bool.and_eq_true] at h
    simp only [eqDs, eqD_self h.1, eqDs_self h.2, Bool.and_self]
end
theorem zip_self_mem : ∀ {ds : List D} {y : D}, y ∈ zipD ds ds → ∃ d ∈ ds, y = .tup [d, d]
  | [], y, h => by cases h
  | d :: ds, y, h => by
    simp only [zipD] at h
    rcases List.mem_cons.mp h with rfl | h
    · exact ⟨d, by simp, rfl⟩
    · obtain ⟨e, he, rfl⟩ := zip_self_mem h
      exact ⟨e, List.mem_cons_of_mem _ he, rfl⟩
def sp__law_same (n : Nat) : DSp := fun ds G R => ∃ x, ds = [x, x] ∧ pyD x = true ∧ wid x = true ∧ depD x ≤ n ∧ R (.bl true) G
theorem ok0__law_same {P : Program} {w : World} {K : PySem.W.Frag} {mg : Str → Option Value} {base : Heap} {a : Ad} (T : Tx w K mg a) {n j : Nat} {sp' : DSp} (ih : FnD P w K mg base j a.f__law_same a.fd__law_same ["found", "due"] sp') (hj : j ≤ n) (hs : ∀ m, n = m + 1 → ∀ ds G R, sp__law_same m ds G R → sp' ds G R) : FnD P w K mg base (n + 1) a.f__law_same a.fd__law_same ["found", "due"] (sp__law_same n) := by
  refine fun_okD T.F__law_same sc__law_same (fun ds G R h => ?_) (fun cdv A outer s H hr => ⟨_, (qss_cons (qs_if (qt_val (qe_callB cd_isiX rfl T.n_isinstance (by decide +kernel) (qa_cons (qv 1) (qa_cons (qe_tup (qa_cons (qe_ty (n := "list") rfl T.n_list (by decide +kernel)) (qa_cons (qe_ty (n := "tuple") rfl T.n_tuple (by decide +kernel)) qa_nil))) qa_nil))))
      (qss_cons (qs_if (QW.pt (qw_or (qt_cmp (od_ne hr.units) (qe_callB cd_isiX rfl T.n_isinstance (by decide +kernel) (qa_cons (qv 0) (qa_cons (qe_ty (n := "list") rfl T.n_list (by decide +kernel)) qa_nil))) (qe_callB cd_isiX rfl T.n_isinstance (by decide +kernel) (qa_cons (qv 1) (qa_cons (qe_ty (n := "list") rfl T.n_list (by decide +kernel)) qa_nil))) (nomark _)) (qw_or1 (qt_not (qt_val (qe_callB cd_isiX rfl T.n_isinstance (by decide +kernel) (qa_cons (qv 0) (qa_cons (qe_tup (qa_cons (qe_ty (n := "list") rfl T.n_list (by decide +kernel)) (qa_cons (qe_ty (n := "tuple") rfl T.n_tuple (by decide +kernel)) qa_nil))) qa_nil))))))))
      (qss_one (qs_ret qe_bl))
      qss_nil)
      (qss_one (qs_ret (qe_and (qe_cmp (od_eq hr.units) (qe_callB cd_len rfl T.n_len (by decide +kernel) (qa_cons (qv 0) qa_nil)) (qe_callB cd_len rfl T.n_len (by decide +kernel) (qa_cons (qv 1) qa_nil)) (nomark _)) (qe_one (qe_callB (cd_all rfl) rfl T.n_all (by decide +kernel) (qa_cons (qe_lc false rfl sc__law_same.nd (qi_zipM rfl T.n_zip (qa_cons (qv 0) (qa_cons (qv 1) qa_nil))) (blkOk_by (own := [("one", 2), ("other", 3)]) (N := N__law_same) (sc := defScope s__law_same) (by decide +kernel)) (fun _ _ _ _ _ => (pg_tup rfl (pgs_cons (pg_name (i := 2) sc__law_same.nd rfl (.inl rfl)) (pgs_cons (pg_name (i := 3) sc__law_same.nd rfl (.inl rfl)) pgs_nil)))) (tg_names (is := [2, 3]) (by decide) rfl) (fun _ _ _ _ _ => qts_nil) (fun _ _ _ _ _ => (qe_call ih (hr.mono (by omega)) rfl T.g__law_same T.F__law_same.kp T.b__law_same (qa_cons (qv 2) (qa_cons (qv 3) qa_nil))))) qa_nil)))))))
      qss_nil)
      (qss_one (qs_ret (qe_and (qe_cmp (od_eq hr.units) (qe_callB cd_isiX rfl T.n_isinstance (by decide +kernel) (qa_cons (qv 0) (qa_cons (qe_ty (n := "bool") rfl T.n_bool (by decide +kernel)) qa_nil))) (qe_callB cd_isiX rfl T.n_isinstance (by decide +kernel) (qa_cons (qv 1) (qa_cons (qe_ty (n := "bool") rfl T.n_bool (by decide +kernel)) qa_nil))) (nomark _)) (qe_one (qe_cmp (od_eq hr.units) (qv 0) (qv 1) (nomark _))))))), fun ds G R h => ?_⟩)
  · obtain ⟨x, rfl, _⟩ := h; rfl
  · obtain ⟨x, rfl, hp, hw, hd, h⟩ := h
    have leaf : ∀ y : D, pyD y = true → depD y ≤ 64 → ∀ Q : DK, Q (.bl true) G → dEq y y G Q := fun y hy hy2 Q q => by
      rw [eq_pure hy hy hy2 hy2, eqD_self hy]; exact q
    have many : ∀ (ds : List D) (x0 x1 : Option D) (Q : DK), pyDs ds = true → wids ds = true → depDs ds + 1 ≤ n → Q (.bl true) G →
        dLcGo (dNames [2, 3]) dYes (dCall sp' (dCons (dVar 2) (dCons (dVar 3) dNil))) (fun _ => True) [x0, x1, none, none] (zipD ds ds) [] G fun ds G2 => dAll [.lst ds] G2 Q := by
      intro ds x0 x1 Q hp hw hd q
      refine all_pure (fun _ => true) True.intro _ (fun y hy Q q => ?_) (by rw [List.all_eq_true.mpr fun _ _ => rfl]; exact q)
      obtain ⟨d, hd2, rfl⟩ := zip_self_mem hy
      walk_at "go"
      obtain ⟨m, rfl⟩ : ∃ m, n = m + 1 := ⟨n - 1, by omega⟩
      exact hs m rfl _ _ _ ⟨d, rfl, pyDs_mem hp hd2, wids_mem hw hd2, by have := depDs_mem' hd2; omega, q⟩
    cases x with
    | tup ds =>
      simp only [pyD] at hp
      simp only [wid, Bool.and_eq_true, decide_eq_true_eq] at hw
      simp only [depD] at hd
      walk_at "go"
      refine ⟨small_line (by rw [zipD_length]; omega), many ds _ _ _ hp hw.2 (by omega) ?_⟩
      walk_at "go"
      exact h
    | lst ds =>
      simp only [pyD] at hp
      simp only [wid, Bool.and_eq_true, decide_eq_true_eq] at hw
      simp only [depD] at hd
      walk_at "go"
      refine ⟨small_line (by rw [zipD_length]; omega), many ds _ _ _ hp hw.2 (by omega) ?_⟩
      walk_at "go"
      exact h
    | nt zs => simp [pyD] at hp
    | ty zs => simp [pyD] at hp
    | ref zs => simp [pyD] at hp
    | any zs => simp [pyD] at hp
    | _ =>
      walk_at "go"
      first
        | exact h
        | (refine leaf _ hp (by simp [depD]) _ ?_; walk_at "go"; exact h)
theorem ok__law_same_n {P : Program} {w : World} {K : PySem.W.Frag} {mg : Str → Option Value} {base : Heap} {a : Ad} (T : Tx w K mg a) : ∀ n : Nat, FnD P w K mg base (n + 1) a.f__law_same a.fd__law_same ["found", "due"] (sp__law_same n)
  | 0 => ok0__law_same T (j := 0) fnd_never (by omega) (fun m e => by omega)
  | n + 1 => ok0__law_same T (ok__law_same_n T n) (by omega) (fun m e ds G R h => by
    have : n = m := by omega
    subst this
    exact h)
end K19


set_option Elab.async false
set_option linter.all false
set_option maxRecDepth 100000
set_option maxHeartbeats 4000000
set_option autoImplicit false
namespace K19
open PySem PySem.Spec PyProof.Rows L2 DL
local macro_rules | `(tactic| walk_at "d") => `(tactic| dsimp only [dSeq, dNext, dIfS, dRet, dRetN, dAsg, dName, dVar, dC, dOp, dUn, dChain, dB, dAnd, dOr, dNot, dAndV, dOrV, dNotV, dIf, dNil, dCons, dTup, dLst, newL, dCallB, dCall, dCallK, dDrop, dAug, dAugS, dSub, dM, dM0, dSlice, dNoPart, dPart, dLc, dYes, dFor, dIter, dRng1, dEnum, dZipM, srcD, dStar, dInK, dIxK, dLenSet, dRev,
  startD, wipeD, setAll, dNames, List.map_cons, List.map_nil, List.length_cons, List.length_nil, List.replicate, List.cons_append, List.nil_append, List.append_nil, List.getElem?_cons_zero, List.getElem?_cons_succ, List.set_cons_zero, List.set_cons_succ, List.map, Nat.zero_add, Nat.reduceAdd, Nat.reduceSub, Nat.sub_self, Nat.succ_sub_succ_eq_sub])
local macro_rules | `(tactic| walk_at "o") => `(tactic| simp only [dAdd_ii, dAdd_ss, dAdd_tt, dAdd_ll, dMinus_ii, dMul_ii, dMod_ii, dFdiv_ii, dPow_ii, dShl_ii, dNeg_i, dIadd_ii, dLt_ii, dLe_ii, dGt_ii, dGe_ii, dEq_ii, dNe_ii, dEq_ss, dNe_ss, dEq_bb, dNe_bb, dIs_n, dIsNot_n, dMax2_ii, dMin2_ii, dTuple_t, dTuple_l, dList_t, dList_l, dIx_t, dIx_l, dIx_s, dSl_t, dSl_l, dSl_s, newL_f, len_tup, len_lst])
local macro_rules | `(tactic| walk_at "w") => `(tactic| dsimp only [x_var, x_c, x_op, x_un, x_b, x_and, x_or, x_not, x_chain, x_andV, x_orV, x_notV, x_if, x_nil, x_cons, x_tup, x_lst0, x_lst1, x_callB, x_call, x_callK, x_next, x_seq, x_break, x_cont, x_drop, x_ret, x_ifS, x_asg, x_name, x_names, x_sub, x_aug, x_augS, x_for, x_lc0, x_lc1, x_yes, x_noPart, x_part, x_slice, x_iter, it_t, it_l, it_n, it_s, it_r, x_rng1, x_enum, x_rev, x_m, x_m0, x_mX, x_zip, x_star_t, x_star_l, x_lenSet, x_forgo0, x_lcgo0, x_while, x_par, x_sortK,
  br_t, br_f, isB_bl, isI_int, isN_some, slo_some, atL_lst, ix_t, ix_l, ix_n,
  dAdd_ii, dAdd_ss, dAdd_tt, dAdd_ll, dMinus_ii, dMul_ii, dMod_ii, dFdiv_ii, dPow_ii, dShl_ii, dNeg_i, dIadd_ii, dLt_ii, dLe_ii, dGt_ii, dGe_ii, ltE_ii, ltE_ss, srcD, isi_i, isi_s, isi_b, isi_n, isi_t, isi_nt, isi_l, isi2_i, isi2_s, isi2_b, isi2_n, isi2_t, isi2_nt, isi2_l, inon_n, inon_i, inon_s, inon_b, inon_t, inon_l, inon_r, dEq_ii, dNe_ii, dEq_ss, dNe_ss, dEq_bb, dNe_bb, dIs_n, dIsNot_n, dMax2_ii, dMin2_ii, dTuple_t, dTuple_l, dList_t, dList_l, dSl_t, dSl_l, dSl_s, newL_f, newL_t, app_r, int_b, int_i, strI_i, strX_i, strX_s,
  startD, wipeD, setAll, permL, List.filterMap, List.map_cons, List.map_nil, List.length_cons, List.length_nil, List.replicate, List.cons_append, List.nil_append, List.append_nil, List.getElem?_cons_zero, List.getElem?_cons_succ, List.set_cons_zero, List.set_cons_succ, List.map, Nat.zero_add, Nat.reduceAdd, Nat.reduceSub, Nat.sub_self, Nat.succ_sub_succ_eq_sub])
local macro_rules | `(tactic| walk_at "v") => `(tactic| simp only [ofString_inj, String.reduceEq, at_0, at_1, at_2, at_3, at_4, at_5, isN_some, isBB_bl, isB_bl, br_t, br_f, br_not, br_and, br_or, br_dec, ix_r, len_tup, len_lst, len_nt, ltE_key, gup_gup, gup_same, starD_one, cut1, cut2, kt1, kt2, kt3, kt4, kt5, kt6, isTy, String.reduceBEq, Bool.or_false, Bool.false_or, Bool.true_or, Bool.or_true, Bool.and_false, Bool.false_and, Bool.true_and, Bool.and_true, Bool.not_true, Bool.not_false, decide_true, decide_false, eq_self_iff_true, Bool.false_eq_true, Int.reduceAdd, Int.add_zero, if_true, if_false, true_and, and_true])
local macro_rules | `(tactic| walk_at "side") => `(tactic| first | with_reducible assumption | omega | exact mty_up | exact True.intro | (simp only [List.mem_cons, ofString_inj, String.reduceEq, true_or, or_true, List.length_map]; done) | with_reducible exact (rfl : (_ : Nat) = _) | exact (rfl : (_ : Option String) = _) | (refine small_line ?_; omega) | (walk_at "ll"; first | omega | (refine small_line ?_; omega) | fail) | (exact log_small (by omega)) | fail)
local macro_rules | `(tactic| walk_at "x") => `(tactic| fail)
local macro_rules | `(tactic| walk_at "go") => `(tactic| repeat' (first | dsimp only [x_var, x_c, x_op, x_un, x_b, x_and, x_or, x_not, x_chain, x_andV, x_orV, x_notV, x_if, x_nil, x_cons, x_tup, x_lst0, x_lst1, x_callB, x_call, x_callK, x_next, x_seq, x_break, x_cont, x_drop, x_ret, x_ifS, x_asg, x_name, x_names, x_sub, x_aug, x_augS, x_for, x_lc0, x_lc1, x_yes, x_noPart, x_part, x_slice, x_iter, it_t, it_l, it_n, it_s, it_r, x_rng1, x_enum, x_rev, x_m, x_m0, x_mX, x_zip, x_star_t, x_star_l, x_lenSet, x_forgo0, x_lcgo0, x_while, x_par, x_sortK, br_t, br_f, isB_bl, isI_int, isN_some, slo_some, atL_lst, ix_t, ix_l, ix_n, dAdd_ii, dAdd_ss, dAdd_tt, dAdd_ll, dMinus_ii, dMul_ii, dMod_ii, dFdiv_ii, dPow_ii, dShl_ii, dNeg_i, dIadd_ii, dLt_ii, dLe_ii, dGt_ii, dGe_ii, ltE_ii, ltE_ss, srcD, isi_i, isi_s, isi_b, isi_n, isi_t, isi_nt, isi_l, isi2_i, isi2_s, isi2_b, isi2_n, isi2_t, isi2_nt, isi2_l, inon_n, inon_i, inon_s, inon_b, inon_t, inon_l, inon_r, dEq_ii, dNe_ii, dEq_ss, dNe_ss, dEq_bb, dNe_bb, dIs_n, dIsNot_n, dMax2_ii, dMin2_ii, dTuple_t, dTuple_l, dList_t, dList_l, dSl_t, dSl_l, dSl_s, newL_f, newL_t, app_r, int_b, int_i, strI_i, strX_i, strX_s, startD, wipeD, setAll, permL, List.filterMap, List.map_cons, List.map_nil, List.length_cons, List.length_nil, List.replicate, List.cons_append, List.nil_append, List.append_nil, List.getElem?_cons_zero, List.getElem?_cons_succ, List.set_cons_zero, List.set_cons_succ, List.map, Nat.zero_add, Nat.reduceAdd, Nat.reduceSub, Nat.sub_self, Nat.succ_sub_succ_eq_sub] | simp only [ofString_inj, String.reduceEq, at_0, at_1, at_2, at_3, at_4, at_5, isN_some, isBB_bl, isB_bl, br_t, br_f, br_not, br_and, br_or, br_dec, ix_r, len_tup, len_lst, len_nt, ltE_key, gup_gup, gup_same, starD_one, cut1, cut2, kt1, kt2, kt3, kt4, kt5, kt6, isTy, String.reduceBEq, Bool.or_false, Bool.false_or, Bool.true_or, Bool.or_true, Bool.and_false, Bool.false_and, Bool.true_and, Bool.and_true, Bool.not_true, Bool.not_false, decide_true, decide_false, eq_self_iff_true, Bool.false_eq_true, Int.reduceAdd, Int.add_zero, if_true, if_false, true_and, and_true] | walk_at "x" | with_reducible refine kont_go ?_ | with_reducible refine rt_sub (by assumption) ?_ | with_reducible refine rt_lst (by assumption) ?_ | with_reducible refine rt_drop (by assumption) ?_ | with_reducible refine rt_keep (by assumption) (by assumption) ?_ | with_reducible refine rt_same ?_ | (refine fun (p : Addr) (_ : _ = none) => ?_) | refine join_gor gup_same rfl (by walk_at "side") ?_ | with_reducible refine lc_cons ?_ | with_reducible refine for_cons ?_ | refine join_go rfl (by walk_at "side") ?_ | refine And.intro (by first | with_reducible assumption | omega | exact mty_up | exact True.intro | (simp only [List.mem_cons, ofString_inj, String.reduceEq, true_or, or_true, List.length_map]; done) | with_reducible exact (rfl : (_ : Nat) = _) | exact (rfl : (_ : Option String) = _) | (refine small_line ?_; omega) | (walk_at "ll"; first | omega | (refine small_line ?_; omega) | fail) | (exact log_small (by omega)) | fail) ?_ | fail))
local macro_rules | `(tactic| walk_at "ll") => `(tactic| simp only [List.length_map, List.length_append, List.length_cons, List.length_nil, List.map_cons, List.map_nil, List.sum_cons, List.sum_nil, len_app, rng_length, ll_0, ll_1, ll_2, ll_3, ll_4, ll_5, ll_6, ll_7, ll_8, ll_9, ll_10, ll_11, ll_12, ll_13, ll_14, ll_15, ll_16, ll_17, ll_18, ll_19, ll_20, ll_21, ll_22, ll_23, ll_24, ll_25, ll_26, ll_27, ll_28, ll_29, ll_30, ll_31, ll_32, ll_33, ll_34, ll_35, ll_36, ll_37, ll_38, ll_39, ll_40, ll_41, ll_42, ll_43, ll_44, ll_45, ll_46, ll_47, ll_48, ll_49, ll_50, ll_51, ll_52, ll_53, ll_54])
def sp_is_whole : DSp := fun ds G R => match ds with | [x] => plD x = true ∧ R (.bl (isWhole x)) G | _ => False
theorem ok_is_whole {P : Program} {w : World} {K : PySem.W.Frag} {mg : Str → Option Value} {base : Heap} {a : Ad} (T : Tx w K mg a) : FnD P w K mg base 1 a.f_is_whole a.fd_is_whole ["thing"] sp_is_whole := by
  refine fun_okD T.F_is_whole sc_is_whole (fun ds G R h => ?_) (fun cdv A outer s H hr => ⟨_, (qss_one (qs_ret (qe_and (qe_callB cd_isi rfl T.n_isinstance (by decide +kernel) (qa_cons (qv 0) (qa_cons (qe_ty (n := "int") rfl T.n_int (by decide +kernel)) qa_nil))) (qe_one (qe_not (qe_callB cd_isi rfl T.n_isinstance (by decide +kernel) (qa_cons (qv 0) (qa_cons (qe_ty (n := "bool") rfl T.n_bool (by decide +kernel)) qa_nil)))))))), fun ds G R h => ?_⟩)
  · unfold sp_is_whole at h; split at h; rfl; exact h.elim
  · unfold sp_is_whole at h
    split at h
    · rename_i x
      obtain ⟨hx, h⟩ := h
      walk_at "d"
      rw [isi_int hx]
      cases x with
      | bl b => simp only [isIntD, isi_bool hx, isBl]; exact ret_same h
      | int b => simp only [isIntD, isi_bool hx, isBl]; exact ret_same h
      | _ => simp only [isIntD]; exact ret_same h
    · exact h.elim
def isWithin (x : D) (lo hi : Int) : Bool := match x with | .int i => decide (lo ≤ i) && decide (i ≤ hi) | _ => false
def sp_is_within : DSp := fun ds G R => match ds with | [x, .int lo, .int hi] => plD x = true ∧ R (.bl (isWithin x lo hi)) G | _ => False
theorem ok_is_within {P : Program} {w : World} {K : PySem.W.Frag} {mg : Str → Option Value} {base : Heap} {a : Ad} (T : Tx w K mg a) : FnD P w K mg base 2 a.f_is_within a.fd_is_within ["thing", "low", "high"] sp_is_within := by
  refine fun_okD T.F_is_within sc_is_within (fun ds G R h => ?_) (fun cdv A outer s H hr => ⟨_, (qss_one (qs_ret (qe_and (qe_call (ok_is_whole T) (hr.mono (by omega)) rfl T.g_is_whole T.F_is_whole.kp T.b_is_whole (qa_cons (qv 0) qa_nil)) (qe_one (qe_chain od_le od_le (qv 1) (qv 0) (qv 2)))))), fun ds G R h => ?_⟩)
  · unfold sp_is_within at h; split at h; rfl; exact h.elim
  · unfold sp_is_within at h
    split at h
    · rename_i x lo hi
      obtain ⟨hx, h⟩ := h
      walk_at "d"
      refine ⟨hx, ?_⟩
      cases x with
      | int i =>
        simp only [isWhole, dLe, dOrd]
        unfold isWithin at h
        simp only at h
        by_cases e : lo ≤ i
        · rw [decide_eq_true e] at h ⊢
          exact ret_same h
        · rw [decide_eq_false e] at h ⊢
          exact ret_same h
      | _ => exact ret_same h
    · exact h.elim
def wordB (b : Int) (x : D) : Bool := isWithin x 0 (2 ^ b.toNat - 1)
def sp_is_word : DSp := fun ds G R => match ds with | [.tup (.int b :: _), x] => 1 ≤ b ∧ b ≤ 8 ∧ plD x = true ∧ R (.bl (wordB b x)) G | _ => False
theorem ok_is_word {P : Program} {w : World} {K : PySem.W.Frag} {mg : Str → Option Value} {base : Heap} {a : Ad} (T : Tx w K mg a) : FnD P w K mg base 3 a.f_is_word a.fd_is_word ["machine", "thing"] sp_is_word := by
  refine fun_okD T.F_is_word sc_is_word (fun ds G R h => ?_) (fun cdv A outer s H hr => ⟨_, (qss_one (qs_ret (qe_call (ok_is_within T) (hr.mono (by omega)) rfl T.g_is_within T.F_is_within.kp T.b_is_within (qa_cons (qv 1) (qa_cons qe_int (qa_cons (qe_op od_sub (qe_op od_shl qe_int (qe_ix xd_ix (qv 0) qe_int (fun _ _ => rfl))) qe_int) qa_nil)))))), fun ds G R h => ?_⟩)
  · unfold sp_is_word at h; split at h; rfl; exact h.elim
  · unfold sp_is_word at h
    split at h
    · rename_i b r x
      obtain ⟨h1, h2, hx, h⟩ := h
      walk_at "d"
      walk_at "o"
      simp only [atI_zero]
      walk_at "o"
      refine ⟨shl_ok (by omega) (by omega), hx, ret_same ?_⟩
      rw [Int.one_mul]
      exact h
    · exact h.elim
/-! ### terms, by the program's look -/
theorem isiS_go {x : D} {G : Gp} {R : DK} (h : plD x = true) (k : R (.bl (isStr x)) G) : dIsiX [x, .ty "str"] G R := (isi_str h).mpr k
theorem isiT_go {x : D} {G : Gp} {R : DK} (h : plD x = true) (k : R (.bl (isTup x)) G) : dIsiX [x, .ty "tuple"] G R := (isi_tup h).mpr k
theorem lookup_some {β : Type} {z : Str} : ∀ l : List (Str × β), (l.lookup z).isSome = decide (z ∈ l.map (·.1))
  | [] => rfl
  | (k, v) :: l => by
    rw [List.lookup_cons]
    by_cases e : z = k
    · subst e; simp
    · have e2 : (z == k) = false := by simpa using e
      rw [e2]
      simp only [lookup_some l]
      simp [e]
def inN (names : List Str) : D → Bool | .str z => decide (z ∈ names) | _ => false
def isTm (M : Mach) : Nat → D → Bool
  | 0, _ => false
  | n + 1, x => match x with
    | .tup (.str w :: ps) => (match ps with
      | [p, q] => decide (w ∈ opL) && (isTm M n p && isTm M n q)
      | [p] => if w = "reg" then inN M.names p else if w = "num" then wordB M.b p else decide (w = "load") && isTm M n p
      | _ => false)
    | _ => false
def sp_is_term (n : Nat) : DSp := fun ds G R => ∃ (M : Mach) (x : D) (k : Nat), ds = [M.d, x, .int k] ∧ M.ok ∧ plD x = true ∧ k ≤ n ∧ R (.bl (isTm M k x)) G
theorem ops_look (a : Ad) (z : Str) : ((kv_OPS a).lookup z).isSome = decide (z ∈ opL) := by rw [lookup_some]; rfl
theorem inOps_go {a : Ad} {z : Str} {G : Gp} {R : DK} (k : R (.bl (decide (z ∈ opL))) G) : dInK a.k_OPS (kv_OPS a) id (.str z) (.ref a.k_OPS) G R := ⟨rfl, by rw [ops_look]; exact k⟩
theorem pl_py {z : Str} (h : plD (.str z) = true) : pyD (.str z) = true := by
  have := (pl_str.mp h).2
  simp only [pyD, List.all_eq_true, decide_eq_true_eq]
  exact this
theorem name_pyS {z : Str} (h : nameOk z = true) : pyD (.str z) = true := by
  have := (nameOk_iff.mp h).2
  simp only [pyD, List.all_eq_true, decide_eq_true_eq]
  intro c hc
  have := this c hc
  simp only [low, Bool.and_eq_true, decide_eq_true_eq] at this
  omega
theorem inE_nt {f : Bool → Bool} {q : Str} {names : List Str} {G : Gp} {R : DK} (hq : plD (.str q) = true) (hn : NamesOk names) (k : R (.bl (f (decide (q ∈ names)))) G) : dInE f (.str q) (.nt names) G R :=
  ⟨pl_py hq, pyDs_strs fun y hy => name_pyS (hn.ok y hy), by simp [depD], by rw [any_strs]; exact k⟩
theorem Mach.eqd (M : Mach) : M.d = .tup [.int M.b, .nt M.names, .int M.h, .int M.al, .int M.mo, .int M.c] := rfl
local macro_rules | `(tactic| walk_at "x") => `(tactic| first
  | refine isiT_go (by assumption) ?_
  | refine isiS_go (by assumption) ?_
  | refine inOps_go ?_
  | dsimp only [isIntD, isStr, isTup, isBl] | rw [if_pos (by omega)] | rw [if_neg (by omega)] | fail)
theorem ok0_is_term {P : Program} {w : World} {K : PySem.W.Frag} {mg : Str → Option Value} {base : Heap} {a : Ad} (T : Tx w K mg a) {n j : Nat} {sp' : DSp} (ih : FnD P w K mg base j a.f_is_term a.fd_is_term ["machine", "thing", "left"] sp') (hj : j ≤ n + 3) (hs : ∀ m, n = m + 1 → ∀ ds G R, sp_is_term m ds G R → sp' ds G R) : FnD P w K mg base (n + 4) a.f_is_term a.fd_is_term ["machine", "thing", "left"] (sp_is_term n) := by
  refine fun_okD T.F_is_term sc_is_term (fun ds G R h => ?_) (fun cdv A outer s H hr => ⟨_, (qss_cons (qs_if (QW.pt (qw_or (qt_cmp (od_eq hr.units) (qv 2) qe_int (nomark _)) (qw_or (qt_not (qt_val (qe_callB cd_isiX rfl T.n_isinstance (by decide +kernel) (qa_cons (qv 1) (qa_cons (qe_ty (n := "tuple") rfl T.n_tuple (by decide +kernel)) qa_nil))))) (qw_or (qt_cmp (od_ltE (room100 hr)) (qe_callB cd_len rfl T.n_len (by decide +kernel) (qa_cons (qv 1) qa_nil)) qe_int (nomark _)) (qw_or1 (qt_not (qt_val (qe_callB cd_isiX rfl T.n_isinstance (by decide +kernel) (qa_cons (qe_ix xd_ix (qv 1) qe_int (fun _ _ => rfl)) (qa_cons (qe_ty (n := "str") rfl T.n_str (by decide +kernel)) qa_nil))))))))))
      (qss_one (qs_ret qe_bl))
      qss_nil)
      (qss_cons (qs_asg (qv 1) (qg_star (n := 2) (i := 1) (is := [3, 4]) rfl (pgs_cons (pg_name (i := 3) sc_is_term.nd rfl (.inl rfl)) (pgs_star (pg_name (i := 4) sc_is_term.nd rfl (.inl rfl)) pgs_nil)) (by decide) rfl))
      (qss_cons (qs_if (qt_cmp (od_eq hr.units) (qe_callB cd_len rfl T.n_len (by decide +kernel) (qa_cons (qv 4) qa_nil)) qe_int (nomark _))
      (qss_one (qs_ret (qe_and (qe_cmp (od_inK T.d_OPS) (qv 3) (qe_globD rfl T.c_OPS) rfl) (qe_one (qe_callB (cd_all rfl) rfl T.n_all (by decide +kernel) (qa_cons (qe_lc false rfl sc_is_term.nd (qi_seq (qv 4)) (blkOk_by (own := [("part", 5)]) (N := N_is_term) (sc := defScope s_is_term) (by decide +kernel)) (fun _ _ _ _ _ => (pg_name (i := 5) sc_is_term.nd rfl (.inl rfl))) (tg_name (i := 5) (by decide)) (fun _ _ _ _ _ => qts_nil) (fun _ _ _ _ _ => (qe_call ih (hr.mono (by omega)) rfl T.g_is_term T.F_is_term.kp T.b_is_term (qa_cons (qv 0) (qa_cons (qv 5) (qa_cons (qe_op od_sub (qv 2) qe_int) qa_nil)))))) qa_nil))))))
      qss_nil)
      (qss_cons (qs_if (qt_cmp (od_ne hr.units) (qe_callB cd_len rfl T.n_len (by decide +kernel) (qa_cons (qv 4) qa_nil)) qe_int (nomark _))
      (qss_one (qs_ret qe_bl))
      qss_nil)
      (qss_cons (qs_if (qt_cmp (od_eq hr.units) (qv 3) qe_str (nomark _))
      (qss_one (qs_ret (qe_and (qe_callB cd_isiX rfl T.n_isinstance (by decide +kernel) (qa_cons (qe_ix xd_ix (qv 4) qe_int (fun _ _ => rfl)) (qa_cons (qe_ty (n := "str") rfl T.n_str (by decide +kernel)) qa_nil))) (qe_one (qe_cmp (od_inE (room100 hr)) (qe_ix xd_ix (qv 4) qe_int (fun _ _ => rfl)) (qe_ix xd_ix (qv 0) qe_int (fun _ _ => rfl)) rfl)))))
      qss_nil)
      (qss_cons (qs_if (qt_cmp (od_eq hr.units) (qv 3) qe_str (nomark _))
      (qss_one (qs_ret (qe_call (ok_is_word T) (hr.mono (by omega)) rfl T.g_is_word T.F_is_word.kp T.b_is_word (qa_cons (qv 0) (qa_cons (qe_ix xd_ix (qv 4) qe_int (fun _ _ => rfl)) qa_nil)))))
      qss_nil)
      (qss_one (qs_ret (qe_and (qe_cmp (od_eq hr.units) (qv 3) qe_str (nomark _)) (qe_one (qe_call ih (hr.mono (by omega)) rfl T.g_is_term T.F_is_term.kp T.b_is_term (qa_cons (qv 0) (qa_cons (qe_ix xd_ix (qv 4) qe_int (fun _ _ => rfl)) (qa_cons (qe_op od_sub (qv 2) qe_int) qa_nil)))))))))))))), fun ds G R h => ?_⟩)
  · obtain ⟨M, x, k, rfl, _⟩ := h; rfl
  · obtain ⟨M, x, k, rfl, hM, hx, hk, h⟩ := h
    cases k with
    | zero =>
      walk_at "go"
      exact h
    | succ k =>
      obtain ⟨m, rfl⟩ : ∃ m, n = m + 1 := ⟨n - 1, by omega⟩
      have ek : ((k + 1 : Nat) : Int) - 1 = (k : Nat) := by omega
      have call : ∀ (y : D) (G : Gp) (R : DK), plD y = true → R (.bl (isTm M k y)) G → sp' [M.d, y, .int (((k + 1 : Nat) : Int) - 1)] G R := fun y G R hy q => by
        rw [ek]
        exact hs m rfl _ _ _ ⟨M, y, k, rfl, hM, hy, by omega, q⟩
      cases x with
      | tup ds =>
        obtain ⟨hl, hp⟩ := pl_tup.mp hx
        cases ds with
        | nil => walk_at "go"; exact h
        | cons a ds =>
        have pa := hp a (by simp)
        cases ds with
        | nil => walk_at "go"; cases a <;> exact h
        | cons b ds =>
        have pb := hp b (by simp)
        cases a with
        | str w =>
          cases ds with
          | nil =>
            simp only [isTm] at h
            walk_at "go"
            by_cases e1 : w = "reg"
            · subst e1
              rw [if_pos rfl] at h ⊢
              walk_at "go"
              cases b with
              | str z =>
                rw [Mach.eqd]
                walk_at "go"
                exact inE_nt pb hM.nm (rt_same h)
              | _ => walk_at "go"; exact h
            rw [if_neg e1] at h ⊢
            walk_at "go"
            by_cases e2 : w = "num"
            · subst e2
              rw [if_pos rfl] at h ⊢
              rw [Mach.eqd]
              walk_at "go"
              exact ⟨hM.b1, hM.b2, pb, rt_same h⟩
            rw [if_neg e2] at h ⊢
            walk_at "go"
            by_cases e3 : w = "load"
            · subst e3
              walk_at "go"
              exact call _ _ _ pb (rt_same (by simpa using h))
            · rw [decide_eq_false e3] at h
              rw [if_neg e3]
              walk_at "go"
              exact h
          | cons c ds =>
            have pc := hp c (by simp)
            cases ds with
            | nil =>
              simp only [isTm] at h
              walk_at "go"
              by_cases e1 : w ∈ opL
              · rw [decide_eq_true e1] at h
                rw [if_pos e1]
                refine ⟨by decide, all_pure (isTm M k) True.intro _ (fun y hy Q q => ?_) (rt_same ?_)⟩
                · walk_at "go"
                  exact call _ _ _ (hp y (List.mem_cons_of_mem _ hy)) q
                · simpa using h
              · rw [decide_eq_false e1] at h
                rw [if_neg e1]
                walk_at "go"
                exact h
            | cons d ds =>
              have : isTm M (k + 1) (D.tup (D.str w :: b :: c :: d :: ds)) = false := rfl
              rw [this] at h
              simp only [List.length_cons] at hl
              walk_at "go"
              exact h
        | _ => walk_at "go"; exact h
      | nt zs => simp [plD] at hx
      | _ => walk_at "go"; exact h
theorem ok_is_term_n {P : Program} {w : World} {K : PySem.W.Frag} {mg : Str → Option Value} {base : Heap} {a : Ad} (T : Tx w K mg a) : ∀ n : Nat, FnD P w K mg base (n + 4) a.f_is_term a.fd_is_term ["machine", "thing", "left"] (sp_is_term n)
  | 0 => ok0_is_term T (j := 0) fnd_never (by omega) (fun m e => by omega)
  | n + 1 => ok0_is_term T (ok_is_term_n T n) (by omega) (fun m e ds G R h => by
    have : n = m := by omega
    subst this
    exact h)
theorem ok_is_term {P : Program} {w : World} {K : PySem.W.Frag} {mg : Str → Option Value} {base : Heap} {a : Ad} (T : Tx w K mg a) : FnD P w K mg base 11 a.f_is_term a.fd_is_term ["machine", "thing", "left"] (sp_is_term 7) := ok_is_term_n T 7
end K19


set_option Elab.async false
set_option linter.all false
set_option maxRecDepth 100000
set_option maxHeartbeats 4000000
set_option autoImplicit false
namespace K19
open PySem PySem.Spec PyProof.Rows L2 DL
local macro_rules | `(tactic| walk_at "d") => `(tactic| dsimp only [dSeq, dNext, dIfS, dRet, dRetN, dAsg, dName, dVar, dC, dOp, dUn, dChain, dB, dAnd, dOr, dNot, dAndV, dOrV, dNotV, dIf, dNil, dCons, dTup, dLst, newL, dCallB, dCall, dCallK, dDrop, dAug, dAugS, dSub, dM, dM0, dSlice, dNoPart, dPart, dLc, dYes, dFor, dIter, dRng1, dEnum, dZipM, srcD, dStar, dInK, dIxK, dLenSet, dRev,
  startD, wipeD, setAll, dNames, List.map_cons, List.map_nil, List.length_cons, List.length_nil, List.replicate, List.cons_append, List.nil_append, List.append_nil, List.getElem?_cons_zero, List.getElem?_cons_succ, List.set_cons_zero, List.set_cons_succ, List.map, Nat.zero_add, Nat.reduceAdd, Nat.reduceSub, Nat.sub_self, Nat.succ_sub_succ_eq_sub])
local macro_rules | `(tactic| walk_at "o") => `(tactic| simp only [dAdd_ii, dAdd_ss, dAdd_tt, dAdd_ll, dMinus_ii, dMul_ii, dMod_ii, dFdiv_ii, dPow_ii, dShl_ii, dNeg_i, dIadd_ii, dLt_ii, dLe_ii, dGt_ii, dGe_ii, dEq_ii, dNe_ii, dEq_ss, dNe_ss, dEq_bb, dNe_bb, dIs_n, dIsNot_n, dMax2_ii, dMin2_ii, dTuple_t, dTuple_l, dList_t, dList_l, dIx_t, dIx_l, dIx_s, dSl_t, dSl_l, dSl_s, newL_f, len_tup, len_lst])
local macro_rules | `(tactic| walk_at "w") => `(tactic| dsimp only [x_var, x_c, x_op, x_un, x_b, x_and, x_or, x_not, x_chain, x_andV, x_orV, x_notV, x_if, x_nil, x_cons, x_tup, x_lst0, x_lst1, x_callB, x_call, x_callK, x_next, x_seq, x_break, x_cont, x_drop, x_ret, x_ifS, x_asg, x_name, x_names, x_sub, x_aug, x_augS, x_for, x_lc0, x_lc1, x_yes, x_noPart, x_part, x_slice, x_iter, it_t, it_l, it_n, it_s, it_r, x_rng1, x_enum, x_rev, x_m, x_m0, x_mX, x_zip, x_star_t, x_star_l, x_lenSet, x_forgo0, x_lcgo0, x_while, x_par, x_sortK,
  br_t, br_f, isB_bl, isI_int, isN_some, slo_some, atL_lst, ix_t, ix_l, ix_n,
  dAdd_ii, dAdd_ss, dAdd_tt, dAdd_ll, dMinus_ii, dMul_ii, dMod_ii, dFdiv_ii, dPow_ii, dShl_ii, dNeg_i, dIadd_ii, dLt_ii, dLe_ii, dGt_ii, dGe_ii, ltE_ii, ltE_ss, srcD, isi_i, isi_s, isi_b, isi_n, isi_t, isi_nt, isi_l, isi2_i, isi2_s, isi2_b, isi2_n, isi2_t, isi2_nt, isi2_l, inon_n, inon_i, inon_s, inon_b, inon_t, inon_l, inon_r, dEq_ii, dNe_ii, dEq_ss, dNe_ss, dEq_bb, dNe_bb, dIs_n, dIsNot_n, dMax2_ii, dMin2_ii, dTuple_t, dTuple_l, dList_t, dList_l, dSl_t, dSl_l, dSl_s, newL_f, newL_t, app_r, int_b, int_i, strI_i, strX_i, strX_s,
  startD, wipeD, setAll, permL, List.filterMap, List.map_cons, List.map_nil, List.length_cons, List.length_nil, List.replicate, List.cons_append, List.nil_append, List.append_nil, List.getElem?_cons_zero, List.getElem?_cons_succ, List.set_cons_zero, List.set_cons_succ, List.map, Nat.zero_add, Nat.reduceAdd, Nat.reduceSub, Nat.sub_self, Nat.succ_sub_succ_eq_sub])
local macro_rules | `(tactic| walk_at "v") => `(tactic| simp only [ofString_inj, String.reduceEq, at_0, at_1, at_2, at_3, at_4, at_5, isN_some, isBB_bl, isB_bl, br_t, br_f, br_not, br_and, br_or, br_dec, ix_r, len_tup, len_lst, len_nt, ltE_key, gup_gup, gup_same, starD_one, cut1, cut2, kt1, kt2, kt3, kt4, kt5, kt6, isTy, String.reduceBEq, Bool.or_false, Bool.false_or, Bool.true_or, Bool.or_true, Bool.and_false, Bool.false_and, Bool.true_and, Bool.and_true, Bool.not_true, Bool.not_false, decide_true, decide_false, eq_self_iff_true, Bool.false_eq_true, Int.reduceAdd, Int.add_zero, if_true, if_false, true_and, and_true])
local macro_rules | `(tactic| walk_at "side") => `(tactic| first | with_reducible assumption | omega | exact mty_up | exact True.intro | (simp only [List.mem_cons, ofString_inj, String.reduceEq, true_or, or_true, List.length_map]; done) | with_reducible exact (rfl : (_ : Nat) = _) | exact (rfl : (_ : Option String) = _) | (refine small_line ?_; omega) | (walk_at "ll"; first | omega | (refine small_line ?_; omega) | fail) | (exact log_small (by omega)) | fail)
local macro_rules | `(tactic| walk_at "x") => `(tactic| fail)
local macro_rules | `(tactic| walk_at "go") => `(tactic| repeat' (first | dsimp only [x_var, x_c, x_op, x_un, x_b, x_and, x_or, x_not, x_chain, x_andV, x_orV, x_notV, x_if, x_nil, x_cons, x_tup, x_lst0, x_lst1, x_callB, x_call, x_callK, x_next, x_seq, x_break, x_cont, x_drop, x_ret, x_ifS, x_asg, x_name, x_names, x_sub, x_aug, x_augS, x_for, x_lc0, x_lc1, x_yes, x_noPart, x_part, x_slice, x_iter, it_t, it_l, it_n, it_s, it_r, x_rng1, x_enum, x_rev, x_m, x_m0, x_mX, x_zip, x_star_t, x_star_l, x_lenSet, x_forgo0, x_lcgo0, x_while, x_par, x_sortK, br_t, br_f, isB_bl, isI_int, isN_some, slo_some, atL_lst, ix_t, ix_l, ix_n, dAdd_ii, dAdd_ss, dAdd_tt, dAdd_ll, dMinus_ii, dMul_ii, dMod_ii, dFdiv_ii, dPow_ii, dShl_ii, dNeg_i, dIadd_ii, dLt_ii, dLe_ii, dGt_ii, dGe_ii, ltE_ii, ltE_ss, srcD, isi_i, isi_s, isi_b, isi_n, isi_t, isi_nt, isi_l, isi2_i, isi2_s, isi2_b, isi2_n, isi2_t, isi2_nt, isi2_l, inon_n, inon_i, inon_s, inon_b, inon_t, inon_l, inon_r, dEq_ii, dNe_ii, dEq_ss, dNe_ss, dEq_bb, dNe_bb, dIs_n, dIsNot_n, dMax2_ii, dMin2_ii, dTuple_t, dTuple_l, dList_t, dList_l, dSl_t, dSl_l, dSl_s, newL_f, newL_t, app_r, int_b, int_i, strI_i, strX_i, strX_s, startD, wipeD, setAll, permL, List.filterMap, List.map_cons, List.map_nil, List.length_cons, List.length_nil, List.replicate, List.cons_append, List.nil_append, List.append_nil, List.getElem?_cons_zero, List.getElem?_cons_succ, List.set_cons_zero, List.set_cons_succ, List.map, Nat.zero_add, Nat.reduceAdd, Nat.reduceSub, Nat.sub_self, Nat.succ_sub_succ_eq_sub] | simp only [ofString_inj, String.reduceEq, at_0, at_1, at_2, at_3, at_4, at_5, isN_some, isBB_bl, isB_bl, br_t, br_f, br_not, br_and, br_or, br_dec, ix_r, len_tup, len_lst, len_nt, ltE_key, gup_gup, gup_same, starD_one, cut1, cut2, kt1, kt2, kt3, kt4, kt5, kt6, isTy, String.reduceBEq, Bool.or_false, Bool.false_or, Bool.true_or, Bool.or_true, Bool.and_false, Bool.false_and, Bool.true_and, Bool.and_true, Bool.not_true, Bool.not_false, decide_true, decide_false, eq_self_iff_true, Bool.false_eq_true, Int.reduceAdd, Int.add_zero, if_true, if_false, true_and, and_true] | walk_at "x" | with_reducible refine kont_go ?_ | with_reducible refine rt_sub (by assumption) ?_ | with_reducible refine rt_lst (by assumption) ?_ | with_reducible refine rt_drop (by assumption) ?_ | with_reducible refine rt_keep (by assumption) (by assumption) ?_ | with_reducible refine rt_same ?_ | (refine fun (p : Addr) (_ : _ = none) => ?_) | refine join_gor gup_same rfl (by walk_at "side") ?_ | with_reducible refine lc_cons ?_ | with_reducible refine for_cons ?_ | refine join_go rfl (by walk_at "side") ?_ | refine And.intro (by first | with_reducible assumption | omega | exact mty_up | exact True.intro | (simp only [List.mem_cons, ofString_inj, String.reduceEq, true_or, or_true, List.length_map]; done) | with_reducible exact (rfl : (_ : Nat) = _) | exact (rfl : (_ : Option String) = _) | (refine small_line ?_; omega) | (walk_at "ll"; first | omega | (refine small_line ?_; omega) | fail) | (exact log_small (by omega)) | fail) ?_ | fail))
local macro_rules | `(tactic| walk_at "ll") => `(tactic| simp only [List.length_map, List.length_append, List.length_cons, List.length_nil, List.map_cons, List.map_nil, List.sum_cons, List.sum_nil, len_app, rng_length, ll_0, ll_1, ll_2, ll_3, ll_4, ll_5, ll_6, ll_7, ll_8, ll_9, ll_10, ll_11, ll_12, ll_13, ll_14, ll_15, ll_16, ll_17, ll_18, ll_19, ll_20, ll_21, ll_22, ll_23, ll_24, ll_25, ll_26, ll_27, ll_28, ll_29, ll_30, ll_31, ll_32, ll_33, ll_34, ll_35, ll_36, ll_37, ll_38, ll_39, ll_40, ll_41, ll_42, ll_43, ll_44, ll_45, ll_46, ll_47, ll_48, ll_49, ll_50, ll_51, ll_52, ll_53, ll_54])
def sp_is_name : DSp := fun ds G R => match ds with | [x] => plD x = true ∧ R (.bl (isName x)) G | _ => False
theorem ok_is_name {P : Program} {w : World} {K : PySem.W.Frag} {mg : Str → Option Value} {base : Heap} {a : Ad} (T : Tx w K mg a) : FnD P w K mg base 1 a.f_is_name a.fd_is_name ["thing"] sp_is_name := by
  refine fun_okD T.F_is_name sc_is_name (fun ds G R h => ?_) (fun cdv A outer s H hr => ⟨_, (qss_cons (qs_if (QW.pt (qw_or (qt_not (qt_val (qe_callB cd_isi rfl T.n_isinstance (by decide +kernel) (qa_cons (qv 0) (qa_cons (qe_ty (n := "str") rfl T.n_str (by decide +kernel)) qa_nil))))) (qw_or1 (qt_not (qt_chain od_le od_le qe_int (qe_callB cd_len rfl T.n_len (by decide +kernel) (qa_cons (qv 0) qa_nil)) (qe_globI rfl T.c_MOST_SIGNS))))))
      (qss_one (qs_ret qe_bl))
      qss_nil)
      (qss_one (qs_ret (qe_callB (cd_all rfl) rfl T.n_all (by decide +kernel) (qa_cons (qe_lc false rfl sc_is_name.nd (qi_seq (qv 0)) (blkOk_by (own := [("sign", 1)]) (N := N_is_name) (sc := defScope s_is_name) (by decide +kernel)) (fun _ _ _ _ _ => (pg_name (i := 1) sc_is_name.nd rfl (.inl rfl))) (tg_name (i := 1) (by decide)) (fun _ _ _ _ _ => qts_nil) (fun _ _ _ _ _ => (qe_cmp od_in (qv 1) (qe_globS rfl T.c_LETTERS) rfl))) qa_nil))))), fun ds G R h => ?_⟩)
  · unfold sp_is_name at h; split at h; rfl; exact h.elim
  · unfold sp_is_name at h
    split at h
    · rename_i x
      obtain ⟨hx, h⟩ := h
      walk_at "d"
      rw [isi_str hx]
      cases x with
      | str z =>
        obtain ⟨hz, hzc⟩ := pl_str.mp hx
        simp only [isStr, Bool.not_true, len_str hz, dLe, dOrd]
        unfold isName nameOk at h
        simp only at h
        by_cases e1 : 1 ≤ z.length
        · have e1' : decide ((1 : Int) ≤ (z.length : Int)) = true := decide_eq_true (by omega)
          by_cases e2 : z.length ≤ 8
          · have e2' : decide ((z.length : Int) ≤ 8) = true := decide_eq_true (by omega)
            rw [decide_eq_true e1, decide_eq_true e2] at h
            simp only [e1', e2', Bool.not_true]
            refine ⟨by unfold signsD; rw [List.length_map, Array.length_toList]; exact small_line hz, ?_⟩
            refine all_pure (fun d => match d with | .str y => y.cps.toList.all low | _ => false) True.intro _ (fun x hx Q q => ?_) (ret_same ?_)
            · unfold signsD at hx
              obtain ⟨c, hc, rfl⟩ := List.mem_map.mp hx
              show Q (.bl (decide (c ∈ letters.cps.toList))) G
              rw [in_letters]
              simpa using q
            · unfold signsD
              rw [List.all_map]
              have e : ((fun d => match d with | D.str y => y.cps.toList.all low | _ => false) ∘ fun c => D.str ⟨#[c]⟩) = low := by
                funext c
                show [c].all low = low c
                simp
              rw [e]
              simpa using h
          · have e2' : decide ((z.length : Int) ≤ 8) = false := decide_eq_false (by omega)
            rw [decide_eq_false e2] at h
            simp only [e1', e2', Bool.not_false]
            exact ret_same (by simpa using h)
        · have e1' : decide ((1 : Int) ≤ (z.length : Int)) = false := decide_eq_false (by omega)
          rw [decide_eq_false e1] at h
          simp only [e1', Bool.not_false]
          exact ret_same (by simpa using h)
      | _ => simp only [isStr, Bool.not_false]; exact ret_same h
    · exact h.elim
/-! ### what is done, by the program's look -/
theorem lenSetS_go {zs : List Str} {G : Gp} {R : DK} (hl : zs.length ≤ 1000) (k : ∀ n : Nat, n ≤ zs.length → (n = zs.length ↔ zs.Nodup) → R (.int n) G) : lenSetD (.lst (zs.map .str)) G R := by
  have h1 : ∀ ys : List Str, keysD (ys.map D.str) = some (ys.map Sum.inr) := fun ys => by
    induction ys with
    | nil => rfl
    | cons y ys ih => simp only [List.map_cons, keysD, keyD, ih]
  unfold lenSetD
  have e : (seqOf G (.lst (zs.map .str))).bind keysD = some (zs.map Sum.inr) := h1 zs
  rw [e]
  have e1 := uniq_le (zs.map (Sum.inr : Str → Key))
  have e2 := uniq_eq (zs.map (Sum.inr : Str → Key))
  rw [List.length_map] at e1 e2
  have e3 : (zs.map (Sum.inr : Str → Key)).Nodup ↔ zs.Nodup :=
    ⟨fun z => (List.pairwise_map.mp z).imp fun h e => h (congrArg Sum.inr e), fun z => List.pairwise_map.mpr (z.imp fun h e => h (Sum.inr.inj e))⟩
  refine ⟨by rw [List.length_map]; unfold scanBound; omega, k _ e1 (e2.trans e3)⟩
theorem two {α : Type} {ds : List α} (h : ds.length = 2) : ∃ a b, ds = [a, b] := by
  match ds, h with
  | [a, b], _ => exact ⟨a, b, rfl⟩
def setOk (M : Mach) (k : Nat) : D → Bool
  | .tup [.str z, t] => decide (z ∈ M.names) && isTm M k t
  | _ => false
def fstS : D → Str | .tup (.str z :: _) => z | _ => ""
def areSets (M : Mach) (k : Nat) : D → Bool
  | .tup ds => ds.all (setOk M k) && decide (ds.map fstS).Nodup
  | _ => false
def areSto (M : Mach) (k : Nat) : D → Bool
  | .tup [] => true
  | .tup [.tup [p, q]] => isTm M k p && isTm M k q
  | _ => false
def isDn (M : Mach) : Nat → D → Bool
  | 0, _ => false
  | n + 1, x => match x with
    | .tup (.str w :: ps) => (match ps with
      | [p, q] => decide (w = "do") && (areSets M n p && areSto M n q)
      | [t, p, q] => decide (w = "if") && (isTm M n t && (isDn M n p && isDn M n q))
      | _ => false)
    | _ => false
theorem go_is_term {M : Mach} {x : D} {k : Nat} {G : Gp} {R : DK} (hM : M.ok) (hx : plD x = true) (hk : k ≤ 7) (q : R (.bl (isTm M k x)) G) : sp_is_term 7 [M.d, x, .int k] G R := ⟨M, x, k, rfl, hM, hx, hk, q⟩
def sp_are_sets : DSp := fun ds G R => ∃ (M : Mach) (x : D) (k : Nat), ds = [M.d, x, .int k] ∧ M.ok ∧ plD x = true ∧ k ≤ 7 ∧ R (.bl (areSets M k x)) G
def sp_are_stores : DSp := fun ds G R => ∃ (M : Mach) (x : D) (k : Nat), ds = [M.d, x, .int k] ∧ M.ok ∧ plD x = true ∧ k ≤ 7 ∧ R (.bl (areSto M k x)) G
theorem sets_no {M : Mach} {k : Nat} {pre rest : List D} {x : D} (h : setOk M k x = false) : areSets M k (.tup (pre ++ x :: rest)) = false := by
  simp only [areSets, List.all_append, List.all_cons, h, Bool.false_and, Bool.and_false]
theorem setOk_at {M : Mach} {k : Nat} {x : D} (h : setOk M k x = true) : ∃ z t, x = .tup [.str z, t] ∧ z ∈ M.names := by
  unfold setOk at h
  split at h
  · rename_i z t
    simp only [Bool.and_eq_true, decide_eq_true_eq] at h
    exact ⟨z, t, rfl, h.1⟩
  · cases h
theorem go_is_name {x : D} {G : Gp} {R : DK} (hx : plD x = true) (q : R (.bl (isName x)) G) : sp_is_name [x] G R := ⟨hx, q⟩
local macro_rules | `(tactic| walk_at "x") => `(tactic| first
  | refine isiT_go (by assumption) ?_
  | refine isiS_go (by assumption) ?_
  | refine inOps_go ?_
  | refine go_is_name (by assumption) ?_
  | refine go_is_term (by assumption) (by assumption) (by omega) ?_
  | simp only [x_lenSetD]
  | dsimp only [isIntD, isStr, isTup, isBl, isName] | rw [if_pos (by omega)] | rw [if_neg (by omega)] | fail)
theorem ok_are_sets {P : Program} {w : World} {K : PySem.W.Frag} {mg : Str → Option Value} {base : Heap} {a : Ad} (T : Tx w K mg a) : FnD P w K mg base 12 a.f_are_sets a.fd_are_sets ["machine", "thing", "left"] sp_are_sets := by
  refine fun_okD T.F_are_sets sc_are_sets (fun ds G R h => ?_) (fun cdv A outer s H hr => ⟨_, (qss_cons (qs_if (qt_not (qt_val (qe_callB cd_isiX rfl T.n_isinstance (by decide +kernel) (qa_cons (qv 1) (qa_cons (qe_ty (n := "tuple") rfl T.n_tuple (by decide +kernel)) qa_nil)))))
      (qss_one (qs_ret qe_bl))
      qss_nil)
      (qss_cons (qs_for PassesOwn.never rfl (qi_seq (qv 1)) (qg_of (pg_name (i := 3) sc_are_sets.nd rfl (.inl rfl)) (tg_name (i := 3) (ws := [3]) (by decide)))
      (qss_cons (qs_if (QW.pt (qw_or (qt_not (qt_val (qe_callB cd_isiX rfl T.n_isinstance (by decide +kernel) (qa_cons (qv 3) (qa_cons (qe_ty (n := "tuple") rfl T.n_tuple (by decide +kernel)) qa_nil))))) (qw_or (qt_cmp (od_ne hr.units) (qe_callB cd_len rfl T.n_len (by decide +kernel) (qa_cons (qv 3) qa_nil)) qe_int (nomark _)) (qw_or (qt_not (qt_val (qe_call (ok_is_name T) (hr.mono (by omega)) rfl T.g_is_name T.F_is_name.kp T.b_is_name (qa_cons (qe_ix xd_ix (qv 3) qe_int (fun _ _ => rfl)) qa_nil)))) (qw_or1 (qt_cmp (od_notInE (room100 hr)) (qe_ix xd_ix (qv 3) qe_int (fun _ _ => rfl)) (qe_ix xd_ix (qv 0) qe_int (fun _ _ => rfl)) rfl))))))
      (qss_one (qs_ret qe_bl))
      qss_nil)
      (qss_one (qs_if (qt_not (qt_val (qe_call (ok_is_term T) (hr.mono (by omega)) rfl T.g_is_term T.F_is_term.kp T.b_is_term (qa_cons (qv 0) (qa_cons (qe_ix xd_ix (qv 3) qe_int (fun _ _ => rfl)) (qa_cons (qv 2) qa_nil))))))
      (qss_one (qs_ret qe_bl))
      qss_nil))))
      (qss_one (qs_ret (qe_cmp (od_eq hr.units) (qe_lenSetE rfl (room100 hr) rfl T.n_len rfl T.n_set (qe_lc false rfl sc_are_sets.nd (qi_seq (qv 1)) (blkOk_by (own := [("name", 4), ("term", 5)]) (N := N_are_sets) (sc := defScope s_are_sets) (by decide +kernel)) (fun _ _ _ _ _ => (pg_tup rfl (pgs_cons (pg_name (i := 4) sc_are_sets.nd rfl (.inl rfl)) (pgs_cons (pg_name (i := 5) sc_are_sets.nd rfl (.inl rfl)) pgs_nil)))) (tg_names (is := [4, 5]) (by decide) rfl) (fun _ _ _ _ _ => qts_nil) (fun _ _ _ _ _ => (qv 4)))) (qe_callB cd_len rfl T.n_len (by decide +kernel) (qa_cons (qv 1) qa_nil)) (nomark _)))))), fun ds G R h => ?_⟩)
  · obtain ⟨M, x, k, rfl, _⟩ := h; rfl
  · obtain ⟨M, x, k, rfl, hM, hx, hk, h⟩ := h
    cases x with
    | tup ds =>
      obtain ⟨hl, hp⟩ := pl_tup.mp hx
      walk_at "go"
      refine for_go (fun rest σ G' => G' = G ∧ (∃ x1, σ = [some M.d, some (.tup ds), some (.int k), x1, none, none]) ∧ ∃ pre, ds = pre ++ rest ∧ pre.all (setOk M k) = true) ?turn ?fin _ _ _ ⟨rfl, ⟨_, rfl⟩, [], rfl, rfl⟩
      case fin =>
        rintro σ G' ⟨rfl, ⟨x1, rfl⟩, pre, e, hpre⟩
        rw [List.append_nil] at e
        subst e
        refine ⟨True.intro, ?_⟩
        walk_at "go"
        refine lc_pure (fun d => .str (fstS d)) True.intro _ _ (fun y hy Q q => ?_) _ ?_
        · obtain ⟨z, t, rfl, _⟩ := setOk_at (List.all_eq_true.mp hpre y hy)
          walk_at "go"
          exact q
        · rw [List.nil_append, show (ds.map fun d => D.str (fstS d)) = (ds.map fstS).map D.str by rw [List.map_map]; rfl]
          refine lenSetS_go (by rw [List.length_map]; exact hl) fun n h1 h2 => ?_
          rw [List.length_map] at h1 h2
          walk_at "go"
          simp only [areSets, hpre, Bool.true_and] at h
          have : decide ((n : Int) = (ds.length : Int)) = decide (ds.map fstS).Nodup := by
            rw [decide_eq_decide, ← h2]; omega
          rw [this]
          exact h
      case turn =>
        rintro x rest σ G' ⟨rfl, ⟨x1, rfl⟩, pre, e, hpre⟩
        refine ⟨True.intro, fun N hN => ?_⟩
        have px := hp x (by rw [e]; simp)
        have no : setOk M k x = false → R (.bl false) G' := fun z => by
          rw [e, sets_no z] at h
          exact h
        walk_at "go"
        cases x with
        | tup es =>
          walk_at "go"
          by_cases e2 : es.length = 2
          · obtain ⟨p, q, rfl⟩ := two e2
            have pp := (pl_tup.mp px).2 p (by simp)
            have pq := (pl_tup.mp px).2 q (by simp)
            walk_at "go"
            cases p with
            | str z =>
              rw [Mach.eqd]
              walk_at "go"
              cases c1 : nameOk z with
              | false =>
                walk_at "go"
                refine no ?_
                simp only [setOk]
                rw [decide_eq_false (fun m => by have := hM.nm.ok z m; rw [c1] at this; cases this), Bool.false_and]
              | true =>
                rw [br_t]
                refine inE_nt pp hM.nm ?_
                walk_at "go"
                by_cases c2 : z ∈ M.names
                · rw [if_pos c2]
                  walk_at "go"
                  rw [← Mach.eqd]
                  cases c3 : isTm M k q with
                  | true =>
                    walk_at "go"
                    refine hN _ _ ⟨rfl, ⟨_, rfl⟩, pre ++ [.tup [.str z, q]], by rw [e, List.append_assoc]; rfl, ?_⟩
                    simp only [List.all_append, hpre, List.all_cons, List.all_nil, setOk, c3, decide_eq_true c2, Bool.true_and, Bool.and_true]
                  | false =>
                    walk_at "go"
                    refine no ?_
                    simp only [setOk, c3, Bool.and_false]
                · rw [if_neg c2]
                  walk_at "go"
                  refine no ?_
                  simp only [setOk, decide_eq_false c2, Bool.false_and]
            | _ => walk_at "go"; exact no rfl
          · rw [if_neg (by omega)]
            walk_at "go"
            refine no ?_
            match es, e2 with
            | [], _ => rfl
            | [a], _ => cases a <;> rfl
            | [a, b], z => exact absurd rfl z
            | a :: b :: c :: r, _ => cases a <;> rfl
        | nt zs => simp [plD] at px
        | _ => walk_at "go"; exact no rfl
    | nt zs => simp [plD] at hx
    | _ => walk_at "go"; exact h
end K19


set_option Elab.async false
set_option linter.all false
set_option maxRecDepth 100000
set_option maxHeartbeats 4000000
set_option autoImplicit false
namespace K19
open PySem PySem.Spec PyProof.Rows L2 DL
local macro_rules | `(tactic| walk_at "d") => `(tactic| dsimp only [dSeq, dNext, dIfS, dRet, dRetN, dAsg, dName, dVar, dC, dOp, dUn, dChain, dB, dAnd, dOr, dNot, dAndV, dOrV, dNotV, dIf, dNil, dCons, dTup, dLst, newL, dCallB, dCall, dCallK, dDrop, dAug, dAugS, dSub, dM, dM0, dSlice, dNoPart, dPart, dLc, dYes, dFor, dIter, dRng1, dEnum, dZipM, srcD, dStar, dInK, dIxK, dLenSet, dRev,
  startD, wipeD, setAll, dNames, List.map_cons, List.map_nil, List.length_cons, List.length_nil, List.replicate, List.cons_append, List.nil_append, List.append_nil, List.getElem?_cons_zero, List.getElem?_cons_succ, List.set_cons_zero, List.set_cons_succ, List.map, Nat.zero_add, Nat.reduceAdd, Nat.reduceSub, Nat.sub_self, Nat.succ_sub_succ_eq_sub])
local macro_rules | `(tactic| walk_at "o") => `(tactic| simp only [dAdd_ii, dAdd_ss, dAdd_tt, dAdd_ll, dMinus_ii, dMul_ii, dMod_ii, dFdiv_ii, dPow_ii, dShl_ii, dNeg_i, dIadd_ii, dLt_ii, dLe_ii, dGt_ii, dGe_ii, dEq_ii, dNe_ii, dEq_ss, dNe_ss, dEq_bb, dNe_bb, dIs_n, dIsNot_n, dMax2_ii, dMin2_ii, dTuple_t, dTuple_l, dList_t, dList_l, dIx_t, dIx_l, dIx_s, dSl_t, dSl_l, dSl_s, newL_f, len_tup, len_lst])
local macro_rules | `(tactic| walk_at "w") => `(tactic| dsimp only [x_var, x_c, x_op, x_un, x_b, x_and, x_or, x_not, x_chain, x_andV, x_orV, x_notV, x_if, x_nil, x_cons, x_tup, x_lst0, x_lst1, x_callB, x_call, x_callK, x_next, x_seq, x_break, x_cont, x_drop, x_ret, x_ifS, x_asg, x_name, x_names, x_sub, x_aug, x_augS, x_for, x_lc0, x_lc1, x_yes, x_noPart, x_part, x_slice, x_iter, it_t, it_l, it_n, it_s, it_r, x_rng1, x_enum, x_rev, x_m, x_m0, x_mX, x_zip, x_star_t, x_star_l, x_lenSet, x_forgo0, x_lcgo0, x_while, x_par, x_sortK,
  br_t, br_f, isB_bl, isI_int, isN_some, slo_some, atL_lst, ix_t, ix_l, ix_n,
  dAdd_ii, dAdd_ss, dAdd_tt, dAdd_ll, dMinus_ii, dMul_ii, dMod_ii, dFdiv_ii, dPow_ii, dShl_ii, dNeg_i, dIadd_ii, dLt_ii, dLe_ii, dGt_ii, dGe_ii, ltE_ii, ltE_ss, srcD, isi_i, isi_s, isi_b, isi_n, isi_t, isi_nt, isi_l, isi2_i, isi2_s, isi2_b, isi2_n, isi2_t, isi2_nt, isi2_l, inon_n, inon_i, inon_s, inon_b, inon_t, inon_l, inon_r, dEq_ii, dNe_ii, dEq_ss, dNe_ss, dEq_bb, dNe_bb, dIs_n, dIsNot_n, dMax2_ii, dMin2_ii, dTuple_t, dTuple_l, dList_t, dList_l, dSl_t, dSl_l, dSl_s, newL_f, newL_t, app_r, int_b, int_i, strI_i, strX_i, strX_s,
  startD, wipeD, setAll, permL, List.filterMap, List.map_cons, List.map_nil, List.length_cons, List.length_nil, List.replicate, List.cons_append, List.nil_append, List.append_nil, List.getElem?_cons_zero, List.getElem?_cons_succ, List.set_cons_zero, List.set_cons_succ, List.map, Nat.zero_add, Nat.reduceAdd, Nat.reduceSub, Nat.sub_self, Nat.succ_sub_succ_eq_sub])
local macro_rules | `(tactic| walk_at "v") => `(tactic| simp only [ofString_inj, String.reduceEq, at_0, at_1, at_2, at_3, at_4, at_5, isN_some, isBB_bl, isB_bl, br_t, br_f, br_not, br_and, br_or, br_dec, ix_r, len_tup, len_lst, len_nt, ltE_key, gup_gup, gup_same, starD_one, cut1, cut2, kt1, kt2, kt3, kt4, kt5, kt6, isTy, String.reduceBEq, Bool.or_false, Bool.false_or, Bool.true_or, Bool.or_true, Bool.and_false, Bool.false_and, Bool.true_and, Bool.and_true, Bool.not_true, Bool.not_false, decide_true, decide_false, eq_self_iff_true, Bool.false_eq_true, Int.reduceAdd, Int.add_zero, if_true, if_false, true_and, and_true])
local macro_rules | `(tactic| walk_at "side") => `(tactic| first | with_reducible assumption | omega | exact mty_up | exact True.intro | (simp only [List.mem_cons, ofString_inj, String.reduceEq, true_or, or_true, List.length_map]; done) | with_reducible exact (rfl : (_ : Nat) = _) | exact (rfl : (_ : Option String) = _) | (refine small_line ?_; omega) | (walk_at "ll"; first | omega | (refine small_line ?_; omega) | fail) | (exact log_small (by omega)) | fail)
local macro_rules | `(tactic| walk_at "x") => `(tactic| fail)
local macro_rules | `(tactic| walk_at "go") => `(tactic| repeat' (first | dsimp only [x_var, x_c, x_op, x_un, x_b, x_and, x_or, x_not, x_chain, x_andV, x_orV, x_notV, x_if, x_nil, x_cons, x_tup, x_lst0, x_lst1, x_callB, x_call, x_callK, x_next, x_seq, x_break, x_cont, x_drop, x_ret, x_ifS, x_asg, x_name, x_names, x_sub, x_aug, x_augS, x_for, x_lc0, x_lc1, x_yes, x_noPart, x_part, x_slice, x_iter, it_t, it_l, it_n, it_s, it_r, x_rng1, x_enum, x_rev, x_m, x_m0, x_mX, x_zip, x_star_t, x_star_l, x_lenSet, x_forgo0, x_lcgo0, x_while, x_par, x_sortK, br_t, br_f, isB_bl, isI_int, isN_some, slo_some, atL_lst, ix_t, ix_l, ix_n, dAdd_ii, dAdd_ss, dAdd_tt, dAdd_ll, dMinus_ii, dMul_ii, dMod_ii, dFdiv_ii, dPow_ii, dShl_ii, dNeg_i, dIadd_ii, dLt_ii, dLe_ii, dGt_ii, dGe_ii, ltE_ii, ltE_ss, srcD, isi_i, isi_s, isi_b, isi_n, isi_t, isi_nt, isi_l, isi2_i, isi2_s, isi2_b, isi2_n, isi2_t, isi2_nt, isi2_l, inon_n, inon_i, inon_s, inon_b, inon_t, inon_l, inon_r, dEq_ii, dNe_ii, dEq_ss, dNe_ss, dEq_bb, dNe_bb, dIs_n, dIsNot_n, dMax2_ii, dMin2_ii, dTuple_t, dTuple_l, dList_t, dList_l, dSl_t, dSl_l, dSl_s, newL_f, newL_t, app_r, int_b, int_i, strI_i, strX_i, strX_s, startD, wipeD, setAll, permL, List.filterMap, List.map_cons, List.map_nil, List.length_cons, List.length_nil, List.replicate, List.cons_append, List.nil_append, List.append_nil, List.getElem?_cons_zero, List.getElem?_cons_succ, List.set_cons_zero, List.set_cons_succ, List.map, Nat.zero_add, Nat.reduceAdd, Nat.reduceSub, Nat.sub_self, Nat.succ_sub_succ_eq_sub] | simp only [ofString_inj, String.reduceEq, at_0, at_1, at_2, at_3, at_4, at_5, isN_some, isBB_bl, isB_bl, br_t, br_f, br_not, br_and, br_or, br_dec, ix_r, len_tup, len_lst, len_nt, ltE_key, gup_gup, gup_same, starD_one, cut1, cut2, kt1, kt2, kt3, kt4, kt5, kt6, isTy, String.reduceBEq, Bool.or_false, Bool.false_or, Bool.true_or, Bool.or_true, Bool.and_false, Bool.false_and, Bool.true_and, Bool.and_true, Bool.not_true, Bool.not_false, decide_true, decide_false, eq_self_iff_true, Bool.false_eq_true, Int.reduceAdd, Int.add_zero, if_true, if_false, true_and, and_true] | walk_at "x" | with_reducible refine kont_go ?_ | with_reducible refine rt_sub (by assumption) ?_ | with_reducible refine rt_lst (by assumption) ?_ | with_reducible refine rt_drop (by assumption) ?_ | with_reducible refine rt_keep (by assumption) (by assumption) ?_ | with_reducible refine rt_same ?_ | (refine fun (p : Addr) (_ : _ = none) => ?_) | refine join_gor gup_same rfl (by walk_at "side") ?_ | with_reducible refine lc_cons ?_ | with_reducible refine for_cons ?_ | refine join_go rfl (by walk_at "side") ?_ | refine And.intro (by first | with_reducible assumption | omega | exact mty_up | exact True.intro | (simp only [List.mem_cons, ofString_inj, String.reduceEq, true_or, or_true, List.length_map]; done) | with_reducible exact (rfl : (_ : Nat) = _) | exact (rfl : (_ : Option String) = _) | (refine small_line ?_; omega) | (walk_at "ll"; first | omega | (refine small_line ?_; omega) | fail) | (exact log_small (by omega)) | fail) ?_ | fail))
local macro_rules | `(tactic| walk_at "ll") => `(tactic| simp only [List.length_map, List.length_append, List.length_cons, List.length_nil, List.map_cons, List.map_nil, List.sum_cons, List.sum_nil, len_app, rng_length, ll_0, ll_1, ll_2, ll_3, ll_4, ll_5, ll_6, ll_7, ll_8, ll_9, ll_10, ll_11, ll_12, ll_13, ll_14, ll_15, ll_16, ll_17, ll_18, ll_19, ll_20, ll_21, ll_22, ll_23, ll_24, ll_25, ll_26, ll_27, ll_28, ll_29, ll_30, ll_31, ll_32, ll_33, ll_34, ll_35, ll_36, ll_37, ll_38, ll_39, ll_40, ll_41, ll_42, ll_43, ll_44, ll_45, ll_46, ll_47, ll_48, ll_49, ll_50, ll_51, ll_52, ll_53, ll_54])
theorem all_two {a b : Bool} {G : Gp} {R : DK} (k : R (.bl (a && b)) G) : dAll [.lst [.bl a, .bl b]] G R := by
  show R (.bl ([a, b].all id)) G
  simpa using k
local macro_rules | `(tactic| walk_at "x") => `(tactic| first
  | refine isiT_go (by assumption) ?_
  | refine isiS_go (by assumption) ?_
  | refine inOps_go ?_
  | refine go_is_name (by assumption) ?_
  | refine go_is_term (by assumption) (by assumption) (by omega) ?_
  | simp only [x_lenSetD]
  | dsimp only [isIntD, isStr, isTup, isBl, isName] | rw [if_pos (by omega)] | rw [if_neg (by omega)] | fail)
theorem ok_are_stores {P : Program} {w : World} {K : PySem.W.Frag} {mg : Str → Option Value} {base : Heap} {a : Ad} (T : Tx w K mg a) : FnD P w K mg base 12 a.f_are_stores a.fd_are_stores ["machine", "thing", "left"] sp_are_stores := by
  refine fun_okD T.F_are_stores sc_are_stores (fun ds G R h => ?_) (fun cdv A outer s H hr => ⟨_, (qss_cons (qs_if (QW.pt (qw_or (qt_not (qt_val (qe_callB cd_isiX rfl T.n_isinstance (by decide +kernel) (qa_cons (qv 1) (qa_cons (qe_ty (n := "tuple") rfl T.n_tuple (by decide +kernel)) qa_nil))))) (qw_or1 (qt_cmp od_gt (qe_callB cd_len rfl T.n_len (by decide +kernel) (qa_cons (qv 1) qa_nil)) qe_int (nomark _)))))
      (qss_one (qs_ret qe_bl))
      qss_nil)
      (qss_cons (qs_for PassesOwn.never rfl (qi_seq (qv 1)) (qg_of (pg_name (i := 3) sc_are_stores.nd rfl (.inl rfl)) (tg_name (i := 3) (ws := [3]) (by decide)))
      (qss_one (qs_if (QW.pt (qw_or (qt_not (qt_val (qe_callB cd_isiX rfl T.n_isinstance (by decide +kernel) (qa_cons (qv 3) (qa_cons (qe_ty (n := "tuple") rfl T.n_tuple (by decide +kernel)) qa_nil))))) (qw_or (qt_cmp (od_ne hr.units) (qe_callB cd_len rfl T.n_len (by decide +kernel) (qa_cons (qv 3) qa_nil)) qe_int (nomark _)) (qw_or1 (qt_not (qt_val (qe_callB (cd_all rfl) rfl T.n_all (by decide +kernel) (qa_cons (qe_lc false rfl sc_are_stores.nd (qi_seq (qv 3)) (blkOk_by (own := [("term", 4)]) (N := N_are_stores) (sc := defScope s_are_stores) (by decide +kernel)) (fun _ _ _ _ _ => (pg_name (i := 4) sc_are_stores.nd rfl (.inl rfl))) (tg_name (i := 4) (by decide)) (fun _ _ _ _ _ => qts_nil) (fun _ _ _ _ _ => (qe_call (ok_is_term T) (hr.mono (by omega)) rfl T.g_is_term T.F_is_term.kp T.b_is_term (qa_cons (qv 0) (qa_cons (qv 4) (qa_cons (qv 2) qa_nil)))))) qa_nil))))))))
      (qss_one (qs_ret qe_bl))
      qss_nil)))
      (qss_one (qs_ret qe_bl)))), fun ds G R h => ?_⟩)
  · obtain ⟨M, x, k, rfl, _⟩ := h; rfl
  · obtain ⟨M, x, k, rfl, hM, hx, hk, h⟩ := h
    cases x with
    | tup ds =>
      obtain ⟨hl, hp⟩ := pl_tup.mp hx
      match ds, hl, hp, h with
      | [], hl, hp, h =>
        walk_at "go"
        exact h
      | [x], hl, hp, h =>
        have px := hp x (by simp)
        walk_at "go"
        cases x with
        | tup es =>
          walk_at "go"
          by_cases e2 : es.length = 2
          · obtain ⟨p, q, rfl⟩ := two e2
            have pp := (pl_tup.mp px).2 p (by simp)
            have pq := (pl_tup.mp px).2 q (by simp)
            walk_at "go"
            refine all_two ?_
            simp only [areSto] at h
            cases c : isTm M k p && isTm M k q with
            | true => rw [c] at h; walk_at "go"; exact h
            | false => rw [c] at h; walk_at "go"; exact h
          · rw [if_neg (by omega)]
            walk_at "go"
            have : areSto M k (.tup [.tup es]) = false := by
              match es, e2 with
              | [], _ => rfl
              | [a], _ => rfl
              | [a, b], z => exact absurd rfl z
              | a :: b :: c :: r, _ => rfl
            rw [this] at h
            exact h
        | nt zs => simp [plD] at px
        | _ => walk_at "go"; exact h
      | x :: y :: r, hl, hp, h =>
        have : areSto M k (.tup (x :: y :: r)) = false := by unfold areSto; split <;> simp_all
        rw [this] at h
        walk_at "go"
        exact h
    | nt zs => simp [plD] at hx
    | _ => walk_at "go"; exact h
theorem three {α : Type} {ds : List α} (h : ds.length = 3) : ∃ a b c, ds = [a, b, c] := by
  match ds, h with
  | [a, b, c], _ => exact ⟨a, b, c, rfl⟩
theorem isDn_do {M : Mach} {k : Nat} {ps : List D} (h : ps.length ≠ 2) : isDn M (k + 1) (.tup (.str "do" :: ps)) = false := by
  match ps, h with
  | [], _ => rfl
  | [a], _ => rfl
  | [a, b], z => exact absurd rfl z
  | [a, b, c], _ => simp only [isDn]; rw [decide_eq_false (by decide +kernel)]; rfl
  | a :: b :: c :: d :: r, _ => rfl
theorem isDn_if {M : Mach} {k : Nat} {ps : List D} (h : ps.length ≠ 3) : isDn M (k + 1) (.tup (.str "if" :: ps)) = false := by
  match ps, h with
  | [], _ => rfl
  | [a], _ => rfl
  | [a, b, c], z => exact absurd rfl z
  | [a, b], _ => simp only [isDn]; rw [decide_eq_false (by decide +kernel)]; rfl
  | a :: b :: c :: d :: r, _ => rfl
theorem isDn_no {M : Mach} {k : Nat} {w : Str} {ps : List D} (h1 : w ≠ "do") (h2 : w ≠ "if") : isDn M (k + 1) (.tup (.str w :: ps)) = false := by
  match ps with
  | [] => rfl
  | [a] => rfl
  | [a, b, c] => simp only [isDn]; rw [decide_eq_false h2]; rfl
  | [a, b] => simp only [isDn]; rw [decide_eq_false h1]; rfl
  | a :: b :: c :: d :: r => rfl
def sp_is_done (n : Nat) : DSp := fun ds G R => ∃ (M : Mach) (x : D) (k : Nat), ds = [M.d, x, .int k] ∧ M.ok ∧ plD x = true ∧ k ≤ n ∧ n ≤ 7 ∧ R (.bl (isDn M k x)) G
theorem go_are_sets {M : Mach} {x : D} {k : Nat} {G : Gp} {R : DK} (hM : M.ok) (hx : plD x = true) (hk : k ≤ 7) (q : R (.bl (areSets M k x)) G) : sp_are_sets [M.d, x, .int k] G R := ⟨M, x, k, rfl, hM, hx, hk, q⟩
theorem go_are_stores {M : Mach} {x : D} {k : Nat} {G : Gp} {R : DK} (hM : M.ok) (hx : plD x = true) (hk : k ≤ 7) (q : R (.bl (areSto M k x)) G) : sp_are_stores [M.d, x, .int k] G R := ⟨M, x, k, rfl, hM, hx, hk, q⟩
local macro_rules | `(tactic| walk_at "x") => `(tactic| first
  | refine isiT_go (by assumption) ?_
  | refine isiS_go (by assumption) ?_
  | refine go_are_sets (by assumption) (by assumption) (by omega) ?_
  | refine go_are_stores (by assumption) (by assumption) (by omega) ?_
  | refine go_is_term (by assumption) (by assumption) (by omega) ?_
  | dsimp only [isIntD, isStr, isTup, isBl] | rw [if_pos (by omega)] | rw [if_neg (by omega)] | fail)
theorem ok0_is_done {P : Program} {w : World} {K : PySem.W.Frag} {mg : Str → Option Value} {base : Heap} {a : Ad} (T : Tx w K mg a) {n j : Nat} {sp' : DSp} (ih : FnD P w K mg base j a.f_is_done a.fd_is_done ["machine", "thing", "left"] sp') (hj : j ≤ n + 12) (hs : ∀ m, n = m + 1 → ∀ ds G R, sp_is_done m ds G R → sp' ds G R) : FnD P w K mg base (n + 13) a.f_is_done a.fd_is_done ["machine", "thing", "left"] (sp_is_done n) := by
  refine fun_okD T.F_is_done sc_is_done (fun ds G R h => ?_) (fun cdv A outer s H hr => ⟨_, (qss_cons (qs_if (QW.pt (qw_or (qt_cmp (od_eq hr.units) (qv 2) qe_int (nomark _)) (qw_or (qt_not (qt_val (qe_callB cd_isiX rfl T.n_isinstance (by decide +kernel) (qa_cons (qv 1) (qa_cons (qe_ty (n := "tuple") rfl T.n_tuple (by decide +kernel)) qa_nil))))) (qw_or (qt_cmp (od_eq hr.units) (qe_callB cd_len rfl T.n_len (by decide +kernel) (qa_cons (qv 1) qa_nil)) qe_int (nomark _)) (qw_or1 (qt_not (qt_val (qe_callB cd_isiX rfl T.n_isinstance (by decide +kernel) (qa_cons (qe_ix xd_ix (qv 1) qe_int (fun _ _ => rfl)) (qa_cons (qe_ty (n := "str") rfl T.n_str (by decide +kernel)) qa_nil))))))))))
      (qss_one (qs_ret qe_bl))
      qss_nil)
      (qss_cons (qs_asg (qv 1) (qg_star (n := 2) (i := 1) (is := [3, 4]) rfl (pgs_cons (pg_name (i := 3) sc_is_done.nd rfl (.inl rfl)) (pgs_star (pg_name (i := 4) sc_is_done.nd rfl (.inl rfl)) pgs_nil)) (by decide) rfl))
      (qss_cons (qs_if (QW.pt (qw_and (qt_cmp (od_eq hr.units) (qv 3) qe_str (nomark _)) (qw_and1 (qt_cmp (od_eq hr.units) (qe_callB cd_len rfl T.n_len (by decide +kernel) (qa_cons (qv 4) qa_nil)) qe_int (nomark _)))))
      (qss_one (qs_ret (qe_and (qe_call (ok_are_sets T) (hr.mono (by omega)) rfl T.g_are_sets T.F_are_sets.kp T.b_are_sets (qa_cons (qv 0) (qa_cons (qe_ix xd_ix (qv 4) qe_int (fun _ _ => rfl)) (qa_cons (qe_op od_sub (qv 2) qe_int) qa_nil)))) (qe_one (qe_call (ok_are_stores T) (hr.mono (by omega)) rfl T.g_are_stores T.F_are_stores.kp T.b_are_stores (qa_cons (qv 0) (qa_cons (qe_ix xd_ix (qv 4) qe_int (fun _ _ => rfl)) (qa_cons (qe_op od_sub (qv 2) qe_int) qa_nil))))))))
      qss_nil)
      (qss_cons (qs_if (QW.pt (qw_or (qt_cmp (od_ne hr.units) (qv 3) qe_str (nomark _)) (qw_or (qt_cmp (od_ne hr.units) (qe_callB cd_len rfl T.n_len (by decide +kernel) (qa_cons (qv 4) qa_nil)) qe_int (nomark _)) (qw_or1 (qt_not (qt_val (qe_call (ok_is_term T) (hr.mono (by omega)) rfl T.g_is_term T.F_is_term.kp T.b_is_term (qa_cons (qv 0) (qa_cons (qe_ix xd_ix (qv 4) qe_int (fun _ _ => rfl)) (qa_cons (qe_op od_sub (qv 2) qe_int) qa_nil))))))))))
      (qss_one (qs_ret qe_bl))
      qss_nil)
      (qss_one (qs_ret (qe_callB (cd_all rfl) rfl T.n_all (by decide +kernel) (qa_cons (qe_lc false rfl sc_is_done.nd (qi_seq (qe_slice false (qv 4) (qo_some qe_int) qo_none)) (blkOk_by (own := [("one", 5)]) (N := N_is_done) (sc := defScope s_is_done) (by decide +kernel)) (fun _ _ _ _ _ => (pg_name (i := 5) sc_is_done.nd rfl (.inl rfl))) (tg_name (i := 5) (by decide)) (fun _ _ _ _ _ => qts_nil) (fun _ _ _ _ _ => (qe_call ih (hr.mono (by omega)) rfl T.g_is_done T.F_is_done.kp T.b_is_done (qa_cons (qv 0) (qa_cons (qv 5) (qa_cons (qe_op od_sub (qv 2) qe_int) qa_nil)))))) qa_nil)))))))), fun ds G R h => ?_⟩)
  · obtain ⟨M, x, k, rfl, _⟩ := h; rfl
  · obtain ⟨M, x, k, rfl, hM, hx, hk, hn, h⟩ := h
    cases k with
    | zero =>
      walk_at "go"
      exact h
    | succ k =>
      obtain ⟨m, rfl⟩ : ∃ m, n = m + 1 := ⟨n - 1, by omega⟩
      have ek : ((k + 1 : Nat) : Int) - 1 = (k : Nat) := by omega
      have call : ∀ (y : D) (G : Gp) (R : DK), plD y = true → R (.bl (isDn M k y)) G → sp' [M.d, y, .int (((k + 1 : Nat) : Int) - 1)] G R := fun y G R hy q => by
        rw [ek]
        exact hs m rfl _ _ _ ⟨M, y, k, rfl, hM, hy, by omega, by omega, q⟩
      cases x with
      | tup ds =>
        obtain ⟨hl, hp⟩ := pl_tup.mp hx
        cases ds with
        | nil => walk_at "go"; exact h
        | cons a ps =>
        have pa := hp a (by simp)
        simp only [List.length_cons] at hl
        cases a with
        | str w =>
          walk_at "go"
          by_cases ed : w = "do"
          · subst ed
            rw [if_pos rfl]
            by_cases e2 : ps.length = 2
            · obtain ⟨p, q, rfl⟩ := two e2
              have pp := hp p (by simp)
              have pq := hp q (by simp)
              simp only [isDn] at h
              walk_at "go"
              rw [ek]
              walk_at "go"
              cases c1 : areSets M k p with
              | true =>
                walk_at "go"
                simpa [c1] using h
              | false =>
                walk_at "go"
                simpa [c1] using h
            · walk_at "go"
              rw [isDn_do e2] at h
              exact h
          · rw [if_neg ed]
            walk_at "go"
            by_cases ei : w = "if"
            · subst ei
              rw [if_pos rfl]
              by_cases e3 : ps.length = 3
              · obtain ⟨t, p, q, rfl⟩ := three e3
                have pt := hp t (by simp)
                have pp := hp p (by simp)
                have pq := hp q (by simp)
                simp only [isDn] at h
                walk_at "go"
                rw [ek]
                walk_at "go"
                cases c1 : isTm M k t with
                | false => walk_at "go"; simpa [c1] using h
                | true =>
                  walk_at "go"
                  refine call _ _ _ pp ?_
                  walk_at "go"
                  refine call _ _ _ pq ?_
                  walk_at "go"
                  exact all_two (rt_same (by simpa [c1] using h))
              · rw [isDn_if e3] at h
                walk_at "go"
                exact h
            · rw [isDn_no ed ei] at h
              rw [if_neg ei]
              walk_at "go"
              exact h
        | _ => walk_at "go"; exact h
      | nt zs => simp [plD] at hx
      | _ => walk_at "go"; exact h
theorem ok_is_done_n {P : Program} {w : World} {K : PySem.W.Frag} {mg : Str → Option Value} {base : Heap} {a : Ad} (T : Tx w K mg a) : ∀ n : Nat, FnD P w K mg base (n + 13) a.f_is_done a.fd_is_done ["machine", "thing", "left"] (sp_is_done n)
  | 0 => ok0_is_done T (j := 0) fnd_never (by omega) (fun m e => by omega)
  | n + 1 => ok0_is_done T (ok_is_done_n T n) (by omega) (fun m e ds G R h => by
    have : n = m := by omega
    subst this
    exact h)
theorem ok_is_done {P : Program} {w : World} {K : PySem.W.Frag} {mg : Str → Option Value} {base : Heap} {a : Ad} (T : Tx w K mg a) : FnD P w K mg base 20 a.f_is_done a.fd_is_done ["machine", "thing", "left"] (sp_is_done 7) := ok_is_done_n T 7
end K19


set_option Elab.async false
set_option linter.all false
set_option maxRecDepth 100000
set_option maxHeartbeats 4000000
set_option autoImplicit false
namespace K19
open PySem PySem.Spec PyProof.Rows L2 DL
local macro_rules | `(tactic| walk_at "d") => `(tactic| dsimp only [dSeq, dNext, dIfS, dRet, dRetN, dAsg, dName, dVar, dC, dOp, dUn, dChain, dB, dAnd, dOr, dNot, dAndV, dOrV, dNotV, dIf, dNil, dCons, dTup, dLst, newL, dCallB, dCall, dCallK, dDrop, dAug, dAugS, dSub, dM, dM0, dSlice, dNoPart, dPart, dLc, dYes, dFor, dIter, dRng1, dEnum, dZipM, srcD, dStar, dInK, dIxK, dLenSet, dRev,
  startD, wipeD, setAll, dNames, List.map_cons, List.map_nil, List.length_cons, List.length_nil, List.replicate, List.cons_append, List.nil_append, List.append_nil, List.getElem?_cons_zero, List.getElem?_cons_succ, List.set_cons_zero, List.set_cons_succ, List.map, Nat.zero_add, Nat.reduceAdd, Nat.reduceSub, Nat.sub_self, Nat.succ_sub_succ_eq_sub])
local macro_rules | `(tactic| walk_at "o") => `(tactic| simp only [dAdd_ii, dAdd_ss, dAdd_tt, dAdd_ll, dMinus_ii, dMul_ii, dMod_ii, dFdiv_ii, dPow_ii, dShl_ii, dNeg_i, dIadd_ii, dLt_ii, dLe_ii, dGt_ii, dGe_ii, dEq_ii, dNe_ii, dEq_ss, dNe_ss, dEq_bb, dNe_bb, dIs_n, dIsNot_n, dMax2_ii, dMin2_ii, dTuple_t, dTuple_l, dList_t, dList_l, dIx_t, dIx_l, dIx_s, dSl_t, dSl_l, dSl_s, newL_f, len_tup, len_lst])
local macro_rules | `(tactic| walk_at "w") => `(tactic| dsimp only [x_var, x_c, x_op, x_un, x_b, x_and, x_or, x_not, x_chain, x_andV, x_orV, x_notV, x_if, x_nil, x_cons, x_tup, x_lst0, x_lst1, x_callB, x_call, x_callK, x_next, x_seq, x_break, x_cont, x_drop, x_ret, x_ifS, x_asg, x_name, x_names, x_sub, x_aug, x_augS, x_for, x_lc0, x_lc1, x_yes, x_noPart, x_part, x_slice, x_iter, it_t, it_l, it_n, it_s, it_r, x_rng1, x_enum, x_rev, x_m, x_m0, x_mX, x_zip, x_star_t, x_star_l, x_lenSet, x_forgo0, x_lcgo0, x_while, x_par, x_sortK,
  br_t, br_f, isB_bl, isI_int, isN_some, slo_some, atL_lst, ix_t, ix_l, ix_n,
  dAdd_ii, dAdd_ss, dAdd_tt, dAdd_ll, dMinus_ii, dMul_ii, dMod_ii, dFdiv_ii, dPow_ii, dShl_ii, dNeg_i, dIadd_ii, dLt_ii, dLe_ii, dGt_ii, dGe_ii, ltE_ii, ltE_ss, srcD, isi_i, isi_s, isi_b, isi_n, isi_t, isi_nt, isi_l, isi2_i, isi2_s, isi2_b, isi2_n, isi2_t, isi2_nt, isi2_l, inon_n, inon_i, inon_s, inon_b, inon_t, inon_l, inon_r, dEq_ii, dNe_ii, dEq_ss, dNe_ss, dEq_bb, dNe_bb, dIs_n, dIsNot_n, dMax2_ii, dMin2_ii, dTuple_t, dTuple_l, dList_t, dList_l, dSl_t, dSl_l, dSl_s, newL_f, newL_t, app_r, int_b, int_i, strI_i, strX_i, strX_s,
  startD, wipeD, setAll, permL, List.filterMap, List.map_cons, List.map_nil, List.length_cons, List.length_nil, List.replicate, List.cons_append, List.nil_append, List.append_nil, List.getElem?_cons_zero, List.getElem?_cons_succ, List.set_cons_zero, List.set_cons_succ, List.map, Nat.zero_add, Nat.reduceAdd, Nat.reduceSub, Nat.sub_self, Nat.succ_sub_succ_eq_sub])
local macro_rules | `(tactic| walk_at "v") => `(tactic| simp only [ofString_inj, String.reduceEq, at_0, at_1, at_2, at_3, at_4, at_5, isN_some, isBB_bl, isB_bl, br_t, br_f, br_not, br_and, br_or, br_dec, ix_r, len_tup, len_lst, len_nt, ltE_key, gup_gup, gup_same, starD_one, cut1, cut2, kt1, kt2, kt3, kt4, kt5, kt6, isTy, String.reduceBEq, Bool.or_false, Bool.false_or, Bool.true_or, Bool.or_true, Bool.and_false, Bool.false_and, Bool.true_and, Bool.and_true, Bool.not_true, Bool.not_false, decide_true, decide_false, eq_self_iff_true, Bool.false_eq_true, Int.reduceAdd, Int.add_zero, if_true, if_false, true_and, and_true])
local macro_rules | `(tactic| walk_at "side") => `(tactic| first | with_reducible assumption | omega | exact mty_up | exact True.intro | (simp only [List.mem_cons, ofString_inj, String.reduceEq, true_or, or_true, List.length_map]; done) | with_reducible exact (rfl : (_ : Nat) = _) | exact (rfl : (_ : Option String) = _) | (refine small_line ?_; omega) | (walk_at "ll"; first | omega | (refine small_line ?_; omega) | fail) | (exact log_small (by omega)) | fail)
local macro_rules | `(tactic| walk_at "x") => `(tactic| fail)
local macro_rules | `(tactic| walk_at "go") => `(tactic| repeat' (first | dsimp only [x_var, x_c, x_op, x_un, x_b, x_and, x_or, x_not, x_chain, x_andV, x_orV, x_notV, x_if, x_nil, x_cons, x_tup, x_lst0, x_lst1, x_callB, x_call, x_callK, x_next, x_seq, x_break, x_cont, x_drop, x_ret, x_ifS, x_asg, x_name, x_names, x_sub, x_aug, x_augS, x_for, x_lc0, x_lc1, x_yes, x_noPart, x_part, x_slice, x_iter, it_t, it_l, it_n, it_s, it_r, x_rng1, x_enum, x_rev, x_m, x_m0, x_mX, x_zip, x_star_t, x_star_l, x_lenSet, x_forgo0, x_lcgo0, x_while, x_par, x_sortK, br_t, br_f, isB_bl, isI_int, isN_some, slo_some, atL_lst, ix_t, ix_l, ix_n, dAdd_ii, dAdd_ss, dAdd_tt, dAdd_ll, dMinus_ii, dMul_ii, dMod_ii, dFdiv_ii, dPow_ii, dShl_ii, dNeg_i, dIadd_ii, dLt_ii, dLe_ii, dGt_ii, dGe_ii, ltE_ii, ltE_ss, srcD, isi_i, isi_s, isi_b, isi_n, isi_t, isi_nt, isi_l, isi2_i, isi2_s, isi2_b, isi2_n, isi2_t, isi2_nt, isi2_l, inon_n, inon_i, inon_s, inon_b, inon_t, inon_l, inon_r, dEq_ii, dNe_ii, dEq_ss, dNe_ss, dEq_bb, dNe_bb, dIs_n, dIsNot_n, dMax2_ii, dMin2_ii, dTuple_t, dTuple_l, dList_t, dList_l, dSl_t, dSl_l, dSl_s, newL_f, newL_t, app_r, int_b, int_i, strI_i, strX_i, strX_s, startD, wipeD, setAll, permL, List.filterMap, List.map_cons, List.map_nil, List.length_cons, List.length_nil, List.replicate, List.cons_append, List.nil_append, List.append_nil, List.getElem?_cons_zero, List.getElem?_cons_succ, List.set_cons_zero, List.set_cons_succ, List.map, Nat.zero_add, Nat.reduceAdd, Nat.reduceSub, Nat.sub_self, Nat.succ_sub_succ_eq_sub] | simp only [ofString_inj, String.reduceEq, at_0, at_1, at_2, at_3, at_4, at_5, isN_some, isBB_bl, isB_bl, br_t, br_f, br_not, br_and, br_or, br_dec, ix_r, len_tup, len_lst, len_nt, ltE_key, gup_gup, gup_same, starD_one, cut1, cut2, kt1, kt2, kt3, kt4, kt5, kt6, isTy, String.reduceBEq, Bool.or_false, Bool.false_or, Bool.true_or, Bool.or_true, Bool.and_false, Bool.false_and, Bool.true_and, Bool.and_true, Bool.not_true, Bool.not_false, decide_true, decide_false, eq_self_iff_true, Bool.false_eq_true, Int.reduceAdd, Int.add_zero, if_true, if_false, true_and, and_true] | walk_at "x" | with_reducible refine kont_go ?_ | with_reducible refine rt_sub (by assumption) ?_ | with_reducible refine rt_lst (by assumption) ?_ | with_reducible refine rt_drop (by assumption) ?_ | with_reducible refine rt_keep (by assumption) (by assumption) ?_ | with_reducible refine rt_same ?_ | (refine fun (p : Addr) (_ : _ = none) => ?_) | refine join_gor gup_same rfl (by walk_at "side") ?_ | with_reducible refine lc_cons ?_ | with_reducible refine for_cons ?_ | refine join_go rfl (by walk_at "side") ?_ | refine And.intro (by first | with_reducible assumption | omega | exact mty_up | exact True.intro | (simp only [List.mem_cons, ofString_inj, String.reduceEq, true_or, or_true, List.length_map]; done) | with_reducible exact (rfl : (_ : Nat) = _) | exact (rfl : (_ : Option String) = _) | (refine small_line ?_; omega) | (walk_at "ll"; first | omega | (refine small_line ?_; omega) | fail) | (exact log_small (by omega)) | fail) ?_ | fail))
local macro_rules | `(tactic| walk_at "ll") => `(tactic| simp only [List.length_map, List.length_append, List.length_cons, List.length_nil, List.map_cons, List.map_nil, List.sum_cons, List.sum_nil, len_app, rng_length, ll_0, ll_1, ll_2, ll_3, ll_4, ll_5, ll_6, ll_7, ll_8, ll_9, ll_10, ll_11, ll_12, ll_13, ll_14, ll_15, ll_16, ll_17, ll_18, ll_19, ll_20, ll_21, ll_22, ll_23, ll_24, ll_25, ll_26, ll_27, ll_28, ll_29, ll_30, ll_31, ll_32, ll_33, ll_34, ll_35, ll_36, ll_37, ll_38, ll_39, ll_40, ll_41, ll_42, ll_43, ll_44, ll_45, ll_46, ll_47, ll_48, ll_49, ll_50, ll_51, ll_52, ll_53, ll_54])
theorem name_py {z : Str} (h : nameOk z = true) : pyD (.str z) = true := by
  have := (nameOk_iff.mp h).2
  simp only [pyD, List.all_eq_true, decide_eq_true_eq]
  intro c hc
  have := this c hc
  simp only [low, Bool.and_eq_true, decide_eq_true_eq] at this
  omega
/-! ### terms -/
inductive Tm where
  | num (w : Nat) | reg (x : Str) | load (t : Tm) | op (o : Str) (t u : Tm)
deriving DecidableEq
def Tm.d : Tm → D
  | .num w => .tup [.str "num", .int w] | .reg x => .tup [.str "reg", .str x] | .load t => .tup [.str "load", t.d] | .op o t u => .tup [.str o, t.d, u.d]
def Tm.dep : Tm → Nat
  | .num _ => 1 | .reg _ => 1 | .load t => t.dep + 1 | .op _ t u => max t.dep u.dep + 1
def Tm.ok (M : Mach) : Tm → Prop
  | .num w => (w : Int) < 2 ^ M.b.toNat | .reg x => x ∈ M.names | .load t => t.ok M | .op o t u => o ∈ opL ∧ t.ok M ∧ u.ok M
theorem Tm.dep_pos (t : Tm) : 1 ≤ t.dep := by cases t <;> simp [Tm.dep]
theorem opL_py : ∀ op ∈ opL, pyD (.str op) = true := by decide +kernel
theorem Tm.py {M : Mach} (hM : M.ok) : ∀ {t : Tm}, t.ok M → pyD t.d = true ∧ depD t.d = t.dep
  | .num w, h => by
    have h0 : pyD (.str "num") = true := by decide +kernel
    simp only [Tm.d, pyD, pyDs, depD, depDs, Tm.dep] at h0 ⊢
    simp [h0]
  | .reg x, h => by
    have hx := name_py (hM.nm.1 x h)
    have h0 : pyD (.str "reg") = true := by decide +kernel
    simp only [Tm.d, pyD, pyDs, depD, depDs, Tm.dep] at hx h0 ⊢
    simp [hx, h0]
  | .load t, h => by
    have hx := Tm.py hM (t := t) h
    have h0 : pyD (.str "load") = true := by decide +kernel
    simp only [Tm.d, pyD, pyDs, depD, depDs, Tm.dep] at h0 ⊢
    simp [hx, h0]
  | .op o t u, h => by
    have hx := Tm.py hM (t := t) h.2.1
    have hy := Tm.py hM (t := u) h.2.2
    have h0 : pyD (.str o) = true := opL_py o h.1
    simp only [Tm.d, pyD, pyDs, depD, depDs, Tm.dep] at h0 ⊢
    simp [hx, hy, h0]
/-! ### meanings -/
inductive Mn where
  | doo (sets : List (Str × Tm)) (st : Option (Tm × Tm)) | ite (t : Tm) (m n : Mn)
def setD (p : Str × Tm) : D := .tup [.str p.1, p.2.d]
def stD (p : Tm × Tm) : D := .tup [p.1.d, p.2.d]
def Mn.d : Mn → D
  | .doo sets st => .tup [.str "do", .tup (sets.map setD), .tup (st.toList.map stD)]
  | .ite t m n => .tup [.str "if", t.d, m.d, n.d]
def Mn.lv : Mn → Nat
  | .doo _ _ => 0 | .ite _ m n => max m.lv n.lv + 1
/-- its terms are right, of few levels -/
def TOk (M : Mach) (t : Tm) : Prop := t.ok M ∧ t.dep ≤ 7
def Mn.ok (M : Mach) : Mn → Prop
  | .doo sets st => sets.length ≤ 6 ∧ (∀ p ∈ sets, TOk M p.2) ∧ (∀ p ∈ st, TOk M p.1 ∧ TOk M p.2) ∧ (∀ p ∈ sets, p.1 ∈ M.names) ∧ (sets.map (·.1)).Nodup
  | .ite t m n => TOk M t ∧ m.ok M ∧ n.ok M
end K19


set_option Elab.async false
set_option linter.all false
set_option maxRecDepth 100000
set_option maxHeartbeats 4000000
set_option autoImplicit false
namespace K19
open PySem PySem.Spec PyProof.Rows L2 DL
local macro_rules | `(tactic| walk_at "d") => `(tactic| dsimp only [dSeq, dNext, dIfS, dRet, dRetN, dAsg, dName, dVar, dC, dOp, dUn, dChain, dB, dAnd, dOr, dNot, dAndV, dOrV, dNotV, dIf, dNil, dCons, dTup, dLst, newL, dCallB, dCall, dCallK, dDrop, dAug, dAugS, dSub, dM, dM0, dSlice, dNoPart, dPart, dLc, dYes, dFor, dIter, dRng1, dEnum, dZipM, srcD, dStar, dInK, dIxK, dLenSet, dRev,
  startD, wipeD, setAll, dNames, List.map_cons, List.map_nil, List.length_cons, List.length_nil, List.replicate, List.cons_append, List.nil_append, List.append_nil, List.getElem?_cons_zero, List.getElem?_cons_succ, List.set_cons_zero, List.set_cons_succ, List.map, Nat.zero_add, Nat.reduceAdd, Nat.reduceSub, Nat.sub_self, Nat.succ_sub_succ_eq_sub])
local macro_rules | `(tactic| walk_at "o") => `(tactic| simp only [dAdd_ii, dAdd_ss, dAdd_tt, dAdd_ll, dMinus_ii, dMul_ii, dMod_ii, dFdiv_ii, dPow_ii, dShl_ii, dNeg_i, dIadd_ii, dLt_ii, dLe_ii, dGt_ii, dGe_ii, dEq_ii, dNe_ii, dEq_ss, dNe_ss, dEq_bb, dNe_bb, dIs_n, dIsNot_n, dMax2_ii, dMin2_ii, dTuple_t, dTuple_l, dList_t, dList_l, dIx_t, dIx_l, dIx_s, dSl_t, dSl_l, dSl_s, newL_f, len_tup, len_lst])
local macro_rules | `(tactic| walk_at "w") => `(tactic| dsimp only [x_var, x_c, x_op, x_un, x_b, x_and, x_or, x_not, x_chain, x_andV, x_orV, x_notV, x_if, x_nil, x_cons, x_tup, x_lst0, x_lst1, x_callB, x_call, x_callK, x_next, x_seq, x_break, x_cont, x_drop, x_ret, x_ifS, x_asg, x_name, x_names, x_sub, x_aug, x_augS, x_for, x_lc0, x_lc1, x_yes, x_noPart, x_part, x_slice, x_iter, it_t, it_l, it_n, it_s, it_r, x_rng1, x_enum, x_rev, x_m, x_m0, x_mX, x_zip, x_star_t, x_star_l, x_lenSet, x_forgo0, x_lcgo0, x_while, x_par, x_sortK,
  br_t, br_f, isB_bl, isI_int, isN_some, slo_some, atL_lst, ix_t, ix_l, ix_n,
  dAdd_ii, dAdd_ss, dAdd_tt, dAdd_ll, dMinus_ii, dMul_ii, dMod_ii, dFdiv_ii, dPow_ii, dShl_ii, dNeg_i, dIadd_ii, dLt_ii, dLe_ii, dGt_ii, dGe_ii, ltE_ii, ltE_ss, srcD, isi_i, isi_s, isi_b, isi_n, isi_t, isi_nt, isi_l, isi2_i, isi2_s, isi2_b, isi2_n, isi2_t, isi2_nt, isi2_l, inon_n, inon_i, inon_s, inon_b, inon_t, inon_l, inon_r, dEq_ii, dNe_ii, dEq_ss, dNe_ss, dEq_bb, dNe_bb, dIs_n, dIsNot_n, dMax2_ii, dMin2_ii, dTuple_t, dTuple_l, dList_t, dList_l, dSl_t, dSl_l, dSl_s, newL_f, newL_t, app_r, int_b, int_i, strI_i, strX_i, strX_s,
  startD, wipeD, setAll, permL, List.filterMap, List.map_cons, List.map_nil, List.length_cons, List.length_nil, List.replicate, List.cons_append, List.nil_append, List.append_nil, List.getElem?_cons_zero, List.getElem?_cons_succ, List.set_cons_zero, List.set_cons_succ, List.map, Nat.zero_add, Nat.reduceAdd, Nat.reduceSub, Nat.sub_self, Nat.succ_sub_succ_eq_sub])
local macro_rules | `(tactic| walk_at "v") => `(tactic| simp only [ofString_inj, String.reduceEq, at_0, at_1, at_2, at_3, at_4, at_5, isN_some, isBB_bl, isB_bl, br_t, br_f, br_not, br_and, br_or, br_dec, ix_r, len_tup, len_lst, len_nt, ltE_key, gup_gup, gup_same, starD_one, cut1, cut2, kt1, kt2, kt3, kt4, kt5, kt6, isTy, String.reduceBEq, Bool.or_false, Bool.false_or, Bool.true_or, Bool.or_true, Bool.and_false, Bool.false_and, Bool.true_and, Bool.and_true, Bool.not_true, Bool.not_false, decide_true, decide_false, eq_self_iff_true, Bool.false_eq_true, Int.reduceAdd, Int.add_zero, if_true, if_false, true_and, and_true])
local macro_rules | `(tactic| walk_at "side") => `(tactic| first | with_reducible assumption | omega | exact mty_up | exact True.intro | (simp only [List.mem_cons, ofString_inj, String.reduceEq, true_or, or_true, List.length_map]; done) | with_reducible exact (rfl : (_ : Nat) = _) | exact (rfl : (_ : Option String) = _) | (refine small_line ?_; omega) | (walk_at "ll"; first | omega | (refine small_line ?_; omega) | fail) | (exact log_small (by omega)) | fail)
local macro_rules | `(tactic| walk_at "x") => `(tactic| fail)
local macro_rules | `(tactic| walk_at "go") => `(tactic| repeat' (first | dsimp only [x_var, x_c, x_op, x_un, x_b, x_and, x_or, x_not, x_chain, x_andV, x_orV, x_notV, x_if, x_nil, x_cons, x_tup, x_lst0, x_lst1, x_callB, x_call, x_callK, x_next, x_seq, x_break, x_cont, x_drop, x_ret, x_ifS, x_asg, x_name, x_names, x_sub, x_aug, x_augS, x_for, x_lc0, x_lc1, x_yes, x_noPart, x_part, x_slice, x_iter, it_t, it_l, it_n, it_s, it_r, x_rng1, x_enum, x_rev, x_m, x_m0, x_mX, x_zip, x_star_t, x_star_l, x_lenSet, x_forgo0, x_lcgo0, x_while, x_par, x_sortK, br_t, br_f, isB_bl, isI_int, isN_some, slo_some, atL_lst, ix_t, ix_l, ix_n, dAdd_ii, dAdd_ss, dAdd_tt, dAdd_ll, dMinus_ii, dMul_ii, dMod_ii, dFdiv_ii, dPow_ii, dShl_ii, dNeg_i, dIadd_ii, dLt_ii, dLe_ii, dGt_ii, dGe_ii, ltE_ii, ltE_ss, srcD, isi_i, isi_s, isi_b, isi_n, isi_t, isi_nt, isi_l, isi2_i, isi2_s, isi2_b, isi2_n, isi2_t, isi2_nt, isi2_l, inon_n, inon_i, inon_s, inon_b, inon_t, inon_l, inon_r, dEq_ii, dNe_ii, dEq_ss, dNe_ss, dEq_bb, dNe_bb, dIs_n, dIsNot_n, dMax2_ii, dMin2_ii, dTuple_t, dTuple_l, dList_t, dList_l, dSl_t, dSl_l, dSl_s, newL_f, newL_t, app_r, int_b, int_i, strI_i, strX_i, strX_s, startD, wipeD, setAll, permL, List.filterMap, List.map_cons, List.map_nil, List.length_cons, List.length_nil, List.replicate, List.cons_append, List.nil_append, List.append_nil, List.getElem?_cons_zero, List.getElem?_cons_succ, List.set_cons_zero, List.set_cons_succ, List.map, Nat.zero_add, Nat.reduceAdd, Nat.reduceSub, Nat.sub_self, Nat.succ_sub_succ_eq_sub] | simp only [ofString_inj, String.reduceEq, at_0, at_1, at_2, at_3, at_4, at_5, isN_some, isBB_bl, isB_bl, br_t, br_f, br_not, br_and, br_or, br_dec, ix_r, len_tup, len_lst, len_nt, ltE_key, gup_gup, gup_same, starD_one, cut1, cut2, kt1, kt2, kt3, kt4, kt5, kt6, isTy, String.reduceBEq, Bool.or_false, Bool.false_or, Bool.true_or, Bool.or_true, Bool.and_false, Bool.false_and, Bool.true_and, Bool.and_true, Bool.not_true, Bool.not_false, decide_true, decide_false, eq_self_iff_true, Bool.false_eq_true, Int.reduceAdd, Int.add_zero, if_true, if_false, true_and, and_true] | walk_at "x" | with_reducible refine kont_go ?_ | with_reducible refine rt_sub (by assumption) ?_ | with_reducible refine rt_lst (by assumption) ?_ | with_reducible refine rt_drop (by assumption) ?_ | with_reducible refine rt_keep (by assumption) (by assumption) ?_ | with_reducible refine rt_same ?_ | (refine fun (p : Addr) (_ : _ = none) => ?_) | refine join_gor gup_same rfl (by walk_at "side") ?_ | with_reducible refine lc_cons ?_ | with_reducible refine for_cons ?_ | refine join_go rfl (by walk_at "side") ?_ | refine And.intro (by first | with_reducible assumption | omega | exact mty_up | exact True.intro | (simp only [List.mem_cons, ofString_inj, String.reduceEq, true_or, or_true, List.length_map]; done) | with_reducible exact (rfl : (_ : Nat) = _) | exact (rfl : (_ : Option String) = _) | (refine small_line ?_; omega) | (walk_at "ll"; first | omega | (refine small_line ?_; omega) | fail) | (exact log_small (by omega)) | fail) ?_ | fail))
local macro_rules | `(tactic| walk_at "ll") => `(tactic| simp only [List.length_map, List.length_append, List.length_cons, List.length_nil, List.map_cons, List.map_nil, List.sum_cons, List.sum_nil, len_app, rng_length, ll_0, ll_1, ll_2, ll_3, ll_4, ll_5, ll_6, ll_7, ll_8, ll_9, ll_10, ll_11, ll_12, ll_13, ll_14, ll_15, ll_16, ll_17, ll_18, ll_19, ll_20, ll_21, ll_22, ll_23, ll_24, ll_25, ll_26, ll_27, ll_28, ll_29, ll_30, ll_31, ll_32, ll_33, ll_34, ll_35, ll_36, ll_37, ll_38, ll_39, ll_40, ll_41, ll_42, ll_43, ll_44, ll_45, ll_46, ll_47, ll_48, ll_49, ll_50, ll_51, ll_52, ll_53, ll_54])
/-! ### terms and what is done, drawn, typed -/
def setsL (sets : List (Str × Tm)) : Nat := sets.foldr (fun p k => max p.2.dep k) 0
theorem setsL_le {k : Nat} : ∀ {sets : List (Str × Tm)}, (∀ p ∈ sets, p.2.dep ≤ k) → setsL sets ≤ k
  | [], _ => Nat.zero_le _
  | p :: r, h => by
    have h1 := h p List.mem_cons_self
    have h2 := setsL_le (k := k) (sets := r) fun q hq => h q (List.mem_cons_of_mem _ hq)
    simp only [setsL, List.foldr_cons] at h2 ⊢
    omega
def stL : Option (Tm × Tm) → Nat | none => 0 | some p => max p.1.dep p.2.dep
/-- the levels of what is done -/
def Mn.lvl : Mn → Nat
  | .doo sets st => max (setsL sets) (stL st) + 1 | .ite t m n => max t.dep (max m.lvl n.lvl) + 1
theorem Mn.lv_lvl : ∀ m : Mn, m.lv ≤ m.lvl
  | .doo _ _ => Nat.zero_le _
  | .ite t m n => by have := Mn.lv_lvl m; have := Mn.lv_lvl n; simp only [Mn.lv, Mn.lvl]; omega
theorem if_or {c d : Prop} [Decidable c] [Decidable d] {A B : Prop} (h1 : c ∨ d → A) (h2 : ¬ (c ∨ d) → B) : if c then A else if d then A else B := by
  by_cases hc : c
  · rw [if_pos hc]; exact h1 (.inl hc)
  · rw [if_neg hc]
    by_cases hd : d
    · rw [if_pos hd]; exact h1 (.inr hd)
    · rw [if_neg hd]; exact h2 (fun z => z.elim hc hd)
def tb : Nat → Nat
  | 0 => 6 | n + 1 => 2 * tb n + 6
theorem tb_pos (n : Nat) : 6 ≤ tb n := by cases n <;> simp [tb]
theorem tb7 {n : Nat} (h : n ≤ 7) : tb n ≤ 1530 := by
  rcases (show n = 0 ∨ n = 1 ∨ n = 2 ∨ n = 3 ∨ n = 4 ∨ n = 5 ∨ n = 6 ∨ n = 7 by omega) with rfl | rfl | rfl | rfl | rfl | rfl | rfl | rfl <;> decide
def sp__law_term (n : Nat) : DSp := fun ds G R => ∃ (s : Addr) (M : Mach) (k : Nat) (o : GO) (left : Int), ds = [.ref s, M.d, .int left] ∧ M.ok ∧ left ≤ (n : Int) ∧ n ≤ 7 ∧ G s = some o ∧ SackO k o ∧ k + tb n ≤ 850000 ∧ ∀ (x : Tm) (o' : GO), x.ok M → (x.dep : Int) ≤ max 1 left → SackO (k + tb n) o' → R x.d (gup G s o')
local macro_rules | `(tactic| walk_at "x") => `(tactic| first
  | refine go_pull (by first | exact gup_same | assumption | fail) (by assumption) (by omega) (by walk_at "side") (by walk_at "side") fun _ _ _ _ => ?_
  | refine go_word (by assumption) (by first | exact gup_same | assumption | fail) (by assumption) (by omega) fun _ _ _ _ => ?_
  | fail)
theorem ok0__law_term {P : Program} {w : World} {K : PySem.W.Frag} {mg : Str → Option Value} {base : Heap} {a : Ad} (T : Tx w K mg a) {n j : Nat} {sp' : DSp} (ih : FnD P w K mg base j a.f__law_term a.fd__law_term ["sack", "own", "left"] sp') (hj : j ≤ n + 2) (hs : ∀ m, n = m + 1 → ∀ ds G R, sp__law_term m ds G R → sp' ds G R) : FnD P w K mg base (n + 3) a.f__law_term a.fd__law_term ["sack", "own", "left"] (sp__law_term n) := by
  refine fun_okD T.F__law_term sc__law_term (fun ds G R h => ?_) (fun cdv A outer s H hr => ⟨_, (qss_cons (qs_set (i := 3) sc__law_term.nd rfl (.inl rfl) (qe_call (ok__law_pull T) (hr.mono (by omega)) rfl T.g__law_pull T.F__law_pull.kp T.b__law_pull (qa_cons (qv 0) (qa_cons qe_int qa_nil))))
      (qss_cons (qs_if (QW.pt (qw_or (qt_cmp (od_ltE (room100 hr)) (qv 2) qe_int (nomark _)) (qw_or1 (qt_cmp (od_ltE (room100 hr)) (qv 3) qe_int (nomark _)))))
      (qss_cons (qs_if (qt_cmp (od_eq hr.units) (qe_call (ok__law_pull T) (hr.mono (by omega)) rfl T.g__law_pull T.F__law_pull.kp T.b__law_pull (qa_cons (qv 0) (qa_cons qe_int qa_nil))) qe_int (nomark _))
      (qss_one (qs_ret (qe_tup (qa_cons qe_str (qa_cons (qe_call (ok__law_word T) (hr.mono (by omega)) rfl T.g__law_word T.F__law_word.kp T.b__law_word (qa_cons (qv 0) (qa_cons (qv 1) qa_nil))) qa_nil)))))
      qss_nil)
      (qss_one (qs_ret (qe_tup (qa_cons qe_str (qa_cons (qe_ix xd_ix (qe_ix xd_ix (qv 1) qe_int (fun _ _ => rfl)) (qe_call (ok__law_pull T) (hr.mono (by omega)) rfl T.g__law_pull T.F__law_pull.kp T.b__law_pull (qa_cons (qv 0) (qa_cons (qe_callB cd_len rfl T.n_len (by decide +kernel) (qa_cons (qe_ix xd_ix (qv 1) qe_int (fun _ _ => rfl)) qa_nil)) qa_nil))) (fun _ _ => rfl)) qa_nil))))))
      qss_nil)
      (qss_cons (qs_if (qt_cmp (od_eq hr.units) (qv 3) qe_int (nomark _))
      (qss_one (qs_ret (qe_tup (qa_cons qe_str (qa_cons (qe_call ih (hr.mono (by omega)) rfl T.g__law_term T.F__law_term.kp T.b__law_term (qa_cons (qv 0) (qa_cons (qv 1) (qa_cons (qe_op od_sub (qv 2) qe_int) qa_nil)))) qa_nil)))))
      qss_nil)
      (qss_cons (qs_set (i := 4) sc__law_term.nd rfl (.inl rfl) (qe_ix xd_ix (qe_lst false (qa_cons qe_str (qa_cons qe_str (qa_cons qe_str (qa_cons qe_str (qa_cons qe_str (qa_cons qe_str (qa_cons qe_str qa_nil)))))))) (qe_call (ok__law_pull T) (hr.mono (by omega)) rfl T.g__law_pull T.F__law_pull.kp T.b__law_pull (qa_cons (qv 0) (qa_cons qe_int qa_nil))) (fun _ _ => rfl)))
      (qss_one (qs_ret (qe_tup (qa_cons (qv 4) (qa_cons (qe_call ih (hr.mono (by omega)) rfl T.g__law_term T.F__law_term.kp T.b__law_term (qa_cons (qv 0) (qa_cons (qv 1) (qa_cons (qe_op od_sub (qv 2) qe_int) qa_nil)))) (qa_cons (qe_call ih (hr.mono (by omega)) rfl T.g__law_term T.F__law_term.kp T.b__law_term (qa_cons (qv 0) (qa_cons (qv 1) (qa_cons (qe_op od_sub (qv 2) qe_int) qa_nil)))) qa_nil)))))))))), fun ds G R h => ?_⟩)
  · obtain ⟨s, M, k, o, left, rfl, _⟩ := h; rfl
  · obtain ⟨s, M, k, o, left, rfl, hM, hl, hn7, e, ho, hk, h⟩ := h
    have hn1 := hM.n1; have hn2 := hM.n2
    have htop := top_le hM.b1 hM.b2
    have hp := tb_pos n
    refine seq_cut (fun σ' G' => ∃ (way : Nat) (o1 : GO), σ' = [some (D.ref s), some M.d, some (D.int left), some (D.int (way : Nat)), none] ∧ SackO (k + 1) o1 ∧ G' = gup G s o1) ?_ (fun N1 hN1 => ?_)
    rotate_left
    · walk_at "go"
      rename_i r1 o1 hr1 ho1
      exact hN1 _ _ ⟨r1, o1, rfl, ho1, rfl⟩
    rintro σ G1 ⟨way, o1, rfl, ho1, rfl⟩
    walk_at "go"
    refine if_or (fun hc => ?_) (fun hc => ?_)
    · walk_at "go"
      rename_i r2 o2 hr2 ho2
      split
      · walk_at "go"
        rename_i v o3 hv ho3
        exact h (.num v) o3 hv (by simp only [Tm.dep]; omega) (ho3.mono (by omega))
      · unfold Mach.d
        walk_at "go"
        rename_i r3 o3 hr3 ho3
        have hl3 : r3 < M.names.length := by omega
        rw [atI_nat (j := r3) (v := .str M.names[r3]) (by rw [List.getElem?_map, List.getElem?_eq_getElem hl3]; rfl)]
        walk_at "go"
        exact h (.reg M.names[r3]) o3 (List.getElem_mem hl3) (by simp only [Tm.dep]; omega) (ho3.mono (by omega))
    · obtain ⟨n', rfl⟩ : ∃ m, n = m + 1 := ⟨n - 1, by omega⟩
      simp only [tb] at *
      have hp' := tb_pos n'
      walk_at "go"
      split
      · walk_at "go"
        refine hs n' rfl _ _ _ ⟨s, M, _, o1, left - 1, rfl, hM, by omega, by omega, gup_same, ho1, by omega, fun x o2 hx hd ho2 => ?_⟩
        walk_at "go"
        exact h (.load x) o2 hx (by simp only [Tm.dep]; omega) (ho2.mono (by omega))
      · walk_at "go"
        rename_i r2 o2 hr2 ho2
        refine pick (by walk_at "side") fun x hx => ?_
        obtain ⟨op, rfl, hop⟩ : ∃ op, x = .str op ∧ op ∈ opL := by
          simp only [List.mem_cons, List.not_mem_nil, or_false] at hx
          rcases hx with rfl | rfl | rfl | rfl | rfl | rfl | rfl <;> exact ⟨_, rfl, by simp [opL]⟩
        walk_at "go"
        refine hs n' rfl _ _ _ ⟨s, M, _, o2, left - 1, rfl, hM, by omega, by omega, gup_same, ho2, by omega, fun t o3 ht hdt ho3 => ?_⟩
        walk_at "go"
        refine hs n' rfl _ _ _ ⟨s, M, _, o3, left - 1, rfl, hM, by omega, by omega, gup_same, ho3, by omega, fun u o4 hu hdu ho4 => ?_⟩
        walk_at "go"
        exact h (.op op t u) o4 ⟨hop, ht, hu⟩ (by simp only [Tm.dep]; omega) (ho4.mono (by omega))
theorem ok__law_term_n {P : Program} {w : World} {K : PySem.W.Frag} {mg : Str → Option Value} {base : Heap} {a : Ad} (T : Tx w K mg a) : ∀ n : Nat, FnD P w K mg base (n + 3) a.f__law_term a.fd__law_term ["sack", "own", "left"] (sp__law_term n)
  | 0 => ok0__law_term T (j := 0) fnd_never (by omega) (fun m e => by omega)
  | n + 1 => ok0__law_term T (ok__law_term_n T n) (by omega) (fun m e ds G R h => by
    have : n = m := by omega
    subst this
    exact h)
theorem ok__law_term {P : Program} {w : World} {K : PySem.W.Frag} {mg : Str → Option Value} {base : Heap} {a : Ad} (T : Tx w K mg a) : FnD P w K mg base 10 a.f__law_term a.fd__law_term ["sack", "own", "left"] (sp__law_term 7) := ok__law_term_n T 7
theorem go_term {s : Addr} {M : Mach} {G : Gp} {R : DK} {o : GO} {k : Nat} {left : Int} (hM : M.ok) (hl : left ≤ 7) (e : G s = some o) (h : SackO k o) (hk : k ≤ 840000) (q : ∀ (x : Tm) (o' : GO), x.ok M → (x.dep : Int) ≤ max 1 left → SackO (k + 1530) o' → R x.d (gup G s o')) : sp__law_term 7 [.ref s, M.d, .int left] G R :=
  ⟨s, M, k, o, left, rfl, hM, hl, by omega, e, h, by have := tb7 (n := 7) (by omega); omega, fun x o' h1 hd h2 => q x o' h1 hd (h2.mono (by have := tb7 (n := 7) (by omega); omega))⟩
def pb : Nat → Nat
  | 0 => 8000 | n + 1 => 2 * pb n + 1600
theorem pb_pos (n : Nat) : 8000 ≤ pb n := by
  induction n with
  | zero => simp [pb]
  | succ n ih => simp only [pb]; omega
theorem popAt_go {p : Addr} {k : Nat} {ds : List D} {d : D} {G : Gp} {R : DK} (e : G p = some (.lst ds)) (h : ds[k]? = some d) (hk : k < 2 ^ 62) (q : R d (gup G p (.lst (ds.eraseIdx k)))) : dPopAt (.ref p) [.int (k : Nat)] G R := by
  have hl := (List.getElem?_eq_some_iff.mp h).1
  show atL (G p) fun ds => 0 ≤ ((k : Nat) : Int) ∧ ((k : Nat) : Int) < 2 ^ 62 ∧ isN ds[((k : Nat) : Int).toNat]? fun d => R d (gup G p (.lst (ds.eraseIdx ((k : Nat) : Int).toNat)))
  rw [e, atL_lst]
  refine ⟨by omega, by omega, ?_⟩
  rw [Int.toNat_natCast, h]
  exact q
theorem erase_map {α β : Type} (f : α → β) : ∀ (l : List α) (k : Nat), (l.map f).eraseIdx k = (l.eraseIdx k).map f
  | [], _ => rfl
  | _ :: _, 0 => rfl
  | x :: l, k + 1 => by simp only [List.map_cons, List.eraseIdx_cons_succ, erase_map f l k]
structure SetsOk (M : Mach) (left : Int) (sets : List (Str × Tm)) : Prop where
  tm : ∀ p ∈ sets, p.2.ok M ∧ (p.2.dep : Int) + 1 ≤ left
  nm : ∀ p ∈ sets, p.1 ∈ M.names
  nd : (sets.map (·.1)).Nodup
def sp__law_plan (n : Nat) : DSp := fun ds G R => ∃ (s : Addr) (M : Mach) (k : Nat) (o : GO) (left : Int), ds = [.ref s, M.d, .int left] ∧ M.ok ∧ left ≤ (n : Int) ∧ 1 ≤ left ∧ left ≤ 7 ∧ G s = some o ∧ SackO k o ∧ k + pb (left - 2).toNat ≤ 700000 ∧ ∀ (x : Mn) (o' : GO), x.ok M → (x.lvl : Int) ≤ left → SackO (k + pb (left - 2).toNat) o' → R x.d (gup G s o')
local macro_rules | `(tactic| walk_at "x") => `(tactic| first
  | refine go_pull (by first | exact gup_same | assumption | fail) (by assumption) (by omega) (by walk_at "side") (by walk_at "side") fun _ _ _ _ => ?_
  | fail)
theorem ok0__law_plan {P : Program} {w : World} {K : PySem.W.Frag} {mg : Str → Option Value} {base : Heap} {a : Ad} (T : Tx w K mg a) {n j : Nat} {sp' : DSp} (ih : FnD P w K mg base j a.f__law_plan a.fd__law_plan ["sack", "own", "left"] sp') (hj : j ≤ n + 10) (hs : ∀ m, n = m + 1 → ∀ ds G R, sp__law_plan m ds G R → sp' ds G R) : FnD P w K mg base (n + 11) a.f__law_plan a.fd__law_plan ["sack", "own", "left"] (sp__law_plan n) := by
  refine fun_okD T.F__law_plan sc__law_plan (fun ds G R h => ?_) (fun cdv A outer s H hr => ⟨_, (qss_cons (qs_if (QW.pt (qw_and (qt_cmp od_gt (qv 2) qe_int (nomark _)) (qw_and1 (qt_cmp (od_eq hr.units) (qe_call (ok__law_pull T) (hr.mono (by omega)) rfl T.g__law_pull T.F__law_pull.kp T.b__law_pull (qa_cons (qv 0) (qa_cons qe_int qa_nil))) qe_int (nomark _)))))
      (qss_cons (qs_set (i := 3) sc__law_plan.nd rfl (.inl rfl) (qe_call (ok__law_term T) (hr.mono (by omega)) rfl T.g__law_term T.F__law_term.kp T.b__law_term (qa_cons (qv 0) (qa_cons (qv 1) (qa_cons (qe_op od_sub (qv 2) qe_int) qa_nil)))))
      (qss_one (qs_ret (qe_tup (qa_cons qe_str (qa_cons (qv 3) (qa_cons (qe_call ih (hr.mono (by omega)) rfl T.g__law_plan T.F__law_plan.kp T.b__law_plan (qa_cons (qv 0) (qa_cons (qv 1) (qa_cons (qe_op od_sub (qv 2) qe_int) qa_nil)))) (qa_cons (qe_call ih (hr.mono (by omega)) rfl T.g__law_plan T.F__law_plan.kp T.b__law_plan (qa_cons (qv 0) (qa_cons (qv 1) (qa_cons (qe_op od_sub (qv 2) qe_int) qa_nil)))) qa_nil))))))))
      qss_nil)
      (qss_cons (qs_set (i := 4) sc__law_plan.nd rfl (.inl rfl) (qe_callTy (cd_list true) rfl T.n_list (by decide +kernel) (qa_cons (qe_ix xd_ix (qv 1) qe_int (fun _ _ => rfl)) qa_nil)))
      (qss_cons (qs_set (i := 5) sc__law_plan.nd rfl (.inl rfl) (qe_lst true qa_nil))
      (qss_cons (qs_for PassesOwn.never rfl (qi_range1 rfl T.n_range (qa_cons (qe_op od_mul (qe_callB (cd_min2 rfl) rfl T.n_min (by decide +kernel) (qa_cons (qe_callB cd_len rfl T.n_len (by decide +kernel) (qa_cons (qv 4) qa_nil)) (qa_cons (qe_call (ok__law_pull T) (hr.mono (by omega)) rfl T.g__law_pull T.F__law_pull.kp T.b__law_pull (qa_cons (qv 0) (qa_cons qe_int qa_nil))) qa_nil))) (qe_callTy cd_int rfl T.n_int (by decide +kernel) (qa_cons (qe_cmp od_gt (qv 2) qe_int (nomark _)) qa_nil))) qa_nil)) (qg_of (pg_name (i := 6) sc__law_plan.nd rfl (.inl rfl)) (tg_name (i := 6) (ws := [6]) (by decide)))
      (qss_one (qs_expr (qe_m PySem.F.plainAttrs_list PySem.F.slot_list_append PySem.F.type_list_append md_append (qv 5) (qa_cons (qe_tup (qa_cons (qe_m PySem.F.plainAttrs_list PySem.F.slot_list_pop PySem.F.type_list_pop md_popAt (qv 4) (qa_cons (qe_call (ok__law_pull T) (hr.mono (by omega)) rfl T.g__law_pull T.F__law_pull.kp T.b__law_pull (qa_cons (qv 0) (qa_cons (qe_callB cd_len rfl T.n_len (by decide +kernel) (qa_cons (qv 4) qa_nil)) qa_nil))) qa_nil)) (qa_cons (qe_call (ok__law_term T) (hr.mono (by omega)) rfl T.g__law_term T.F__law_term.kp T.b__law_term (qa_cons (qv 0) (qa_cons (qv 1) (qa_cons (qe_op od_sub (qv 2) qe_int) qa_nil)))) qa_nil))) qa_nil)))))
      (qss_cons (qs_set (i := 7) sc__law_plan.nd rfl (.inl rfl) (qe_lst true qa_nil))
      (qss_cons (qs_if (QW.pt (qw_and (qt_cmp od_gt (qv 2) qe_int (nomark _)) (qw_and1 (qt_cmp (od_eq hr.units) (qe_call (ok__law_pull T) (hr.mono (by omega)) rfl T.g__law_pull T.F__law_pull.kp T.b__law_pull (qa_cons (qv 0) (qa_cons qe_int qa_nil))) qe_int (nomark _)))))
      (qss_one (qs_expr (qe_m PySem.F.plainAttrs_list PySem.F.slot_list_append PySem.F.type_list_append md_append (qv 7) (qa_cons (qe_tup (qa_cons (qe_call (ok__law_term T) (hr.mono (by omega)) rfl T.g__law_term T.F__law_term.kp T.b__law_term (qa_cons (qv 0) (qa_cons (qv 1) (qa_cons (qe_op od_sub (qv 2) qe_int) qa_nil)))) (qa_cons (qe_call (ok__law_term T) (hr.mono (by omega)) rfl T.g__law_term T.F__law_term.kp T.b__law_term (qa_cons (qv 0) (qa_cons (qv 1) (qa_cons (qe_op od_sub (qv 2) qe_int) qa_nil)))) qa_nil))) qa_nil))))
      qss_nil)
      (qss_one (qs_ret (qe_tup (qa_cons qe_str (qa_cons (qe_callTy cd_tuple rfl T.n_tuple (by decide +kernel) (qa_cons (qv 5) qa_nil)) (qa_cons (qe_callTy cd_tuple rfl T.n_tuple (by decide +kernel) (qa_cons (qv 7) qa_nil)) qa_nil)))))))))))), fun ds G R h => ?_⟩)
  · obtain ⟨s, M, k, o, left, rfl, _⟩ := h; rfl
  · obtain ⟨s, M, k, o, left, rfl, hM, hl, hl1, hl6, e, ho, hk, h⟩ := h
    have hn1 := hM.n1; have hn2 := hM.n2
    have hp := pb_pos (left - 2).toNat
    refine seq_cut (fun σ' G' => ∃ o1, σ' = [some (D.ref s), some M.d, some (D.int left), none, none, none, none, none] ∧ SackO (k + 1) o1 ∧ G' = gup G s o1) ?_ (fun N1 hN1 => ?_)
    rotate_left
    · walk_at "go"
      have no : N1 [some (D.ref s), some M.d, some (D.int left), none, none, none, none, none] G := by
        rw [show G = gup G s o from (gup_self e).symm]
        exact hN1 _ _ ⟨o, rfl, ho.mono (by omega), rfl⟩
      split
      · walk_at "go"
        rename_i hl2 r1 o1 hr1 ho1
        split
        · obtain ⟨n', rfl⟩ : ∃ m, n = m + 1 := ⟨n - 1, by omega⟩
          obtain ⟨q, hq⟩ : ∃ q, (left - 2).toNat = q + 1 := ⟨(left - 3).toNat, by omega⟩
          have hq' : (left - 1 - 2).toNat = q := by omega
          rw [hq] at h hk hp
          simp only [pb] at h hk
          have hp' := pb_pos q
          walk_at "go"
          refine go_term hM (by omega) gup_same ho1 (by omega) fun t o2 ht hdt ho2 => ?_
          walk_at "go"
          refine hs n' rfl _ _ _ ⟨s, M, _, o2, left - 1, rfl, hM, by omega, by omega, by omega, gup_same, ho2, by rw [hq']; omega, fun x o3 hx hlx ho3 => ?_⟩
          rw [hq'] at ho3
          walk_at "go"
          refine hs n' rfl _ _ _ ⟨s, M, _, o3, left - 1, rfl, hM, by omega, by omega, by omega, gup_same, ho3, by rw [hq']; omega, fun y o4 hy hly ho4 => ?_⟩
          rw [hq'] at ho4
          walk_at "go"
          exact h (.ite t x y) o4 ⟨⟨ht, by omega⟩, hx, hy⟩ (by simp only [Mn.lvl]; omega) (ho4.mono (by omega))
        · walk_at "go"
          exact hN1 _ _ ⟨o1, rfl, ho1.mono (by omega), rfl⟩
      · walk_at "go"
        exact no
    rintro σ G0 ⟨o0, rfl, ho0, rfl⟩
    refine seq_cut (fun σ' G' => ∃ q, σ' = [some (.ref s), some M.d, some (.int left), none, some (.ref q), none, none, none] ∧ s ≠ q ∧ G q = none ∧ Ext s G G' ∧ G' s = some o0 ∧ G' q = some (.lst (M.names.map .str))) ?_ (fun N1 hN1 => ?_)
    rotate_left
    · unfold Mach.d
      walk_at "go"
      rename_i q nq
      have hsq := fr_ne gup_same nq
      have nq' : G q = none := by rw [gup_ne hsq.symm] at nq; exact nq
      exact hN1 _ _ ⟨q, rfl, hsq, nq', ((Ext.refl s G).self).new nq hsq, by rw [gup_ne hsq, gup_same], gup_same⟩
    rintro σ G1 ⟨q, rfl, hsq, nq, hx1, e1, eq1⟩
    refine seq_cut (fun σ' G' => ∃ r, σ' = [some (.ref s), some M.d, some (.int left), none, some (.ref q), some (.ref r), none, none] ∧ s ≠ r ∧ q ≠ r ∧ G r = none ∧ Ext s G G' ∧ G' s = some o0 ∧ G' q = some (.lst (M.names.map .str)) ∧ G' r = some (.lst [])) ?_ (fun N1 hN1 => ?_)
    rotate_left
    · walk_at "go"
      rename_i r nr
      have hsr := fr_ne e1 nr
      have hqr := fr_ne eq1 nr
      exact hN1 _ _ ⟨r, rfl, hsr, hqr, hx1.nn hsr.symm nr, hx1.new nr hsr, by rw [gup_ne hsr]; exact e1, by rw [gup_ne hqr]; exact eq1, gup_same⟩
    rintro σ G3 ⟨r, rfl, hsr, hqr, nr, hx3, e3, eq3, er3⟩
    refine seq_cut (fun σ' G' => ∃ (sets : List (Str × Tm)) (o1 : GO) (x6 : Option D), σ' = [some (.ref s), some M.d, some (.int left), none, some (.ref q), some (.ref r), x6, none] ∧ Ext s G G' ∧ G' s = some o1 ∧ SackO (k + 2 + 1540 * 3) o1 ∧ G' r = some (.lst (sets.map setD)) ∧ sets.length ≤ 3 ∧ SetsOk M left sets) ?_ (fun N1 hN1 => ?_)
    rotate_left
    · walk_at "go"
      rw [len_ref eq3, List.length_map]
      walk_at "go"
      rename_i r1 o1 hr1 ho1
      obtain ⟨m, em, hm1, hm2, hm3⟩ : ∃ m : Nat, (if (r1 : Int) < (M.names.length : Int) then (r1 : Int) else (M.names.length : Int)) * (if decide (1 < left) = true then (1 : Int) else 0) = (m : Int) ∧ m ≤ M.names.length ∧ m ≤ 3 ∧ (0 < m → 1 < left) := by
        by_cases hl2 : 1 < left
        · refine ⟨(if (r1 : Int) < (M.names.length : Int) then (r1 : Int) else (M.names.length : Int)).toNat, ?_, ?_, ?_, fun _ => hl2⟩
          · rw [decide_eq_true hl2, if_pos rfl, Int.mul_one]; split <;> omega
          · split <;> omega
          · split <;> omega
        · exact ⟨0, by simp [hl2], by omega, by omega, fun z => absurd z (by decide)⟩
      refine ⟨mul_ok (by split <;> omega) (by split <;> omega), ?_⟩
      rw [em]
      refine ⟨by omega, by omega, ?_⟩
      rw [Int.toNat_natCast]
      refine for_rng m (fun j σ' G' => ∃ (sets : List (Str × Tm)) (nm : List Str) (o1 : GO) (x6 : Option D), σ' = [some (.ref s), some M.d, some (.int left), none, some (.ref q), some (.ref r), x6, none] ∧ Ext s G G' ∧ G' s = some o1 ∧ SackO (k + 2 + 1540 * j) o1 ∧ G' q = some (.lst (nm.map .str)) ∧ G' r = some (.lst (sets.map setD)) ∧ sets.length = j ∧ nm.length + j = M.names.length ∧ (∀ z ∈ nm, z ∈ M.names) ∧ nm.Nodup ∧ (∀ p ∈ sets, p.1 ∉ nm) ∧ SetsOk M left sets) ?turn ?fin _ _ ⟨[], M.names, o1, none, rfl, hx3.self, gup_same, ho1, by rw [gup_ne hsq.symm]; exact eq3, by rw [gup_ne hsr.symm]; exact er3, rfl, rfl, fun _ z => z, hM.nm.2, fun _ h => (by cases h), ⟨fun _ h => (by cases h), fun _ h => (by cases h), .nil⟩⟩
      case fin =>
        rintro σ' G' ⟨sets, nm, o2, x6, rfl, hx, es, ho2, eq', er', hsl, hnl, hnm, hnd, hdj, hst⟩
        exact hN1 _ _ ⟨sets, o2, x6, rfl, hx, es, ho2.mono (by omega), er', by omega, hst⟩
      case turn =>
        rintro j σ' G' hj ⟨sets, nm, o2, x6, rfl, hx, es, ho2, eq', er', hsl, hnl, hnm, hnd, hdj, hst⟩ N hN
        have hl2 := hm3 (by omega)
        walk_at "go"
        refine ⟨mty_at er', ?_⟩
        walk_at "go"
        refine ⟨mty_at eq', ?_⟩
        rw [len_ref eq', List.length_map]
        refine go_pull es ho2 (by omega) (by omega) (by omega) fun r2 o3 hr2 ho3 => ?_
        have hk2 : r2 < nm.length := by omega
        refine popAt_go (d := .str nm[r2]) (by rw [gup_ne hsq.symm]; exact eq') (by rw [List.getElem?_map, List.getElem?_eq_getElem hk2]; rfl) (by omega) ?_
        rw [erase_map]
        walk_at "go"
        refine go_term hM (by omega) (by rw [gup_ne hsq, gup_same]) ho3 (by omega) fun t o4 ht hdt ho4 => ?_
        have er2 : gup (gup (gup G' s o3) q (.lst ((nm.eraseIdx r2).map .str))) s o4 r = some (.lst (sets.map setD)) := by rw [gup_ne hsr.symm, gup_ne hqr.symm, gup_ne hsr.symm]; exact er'
        walk_at "go"
        rw [atL_at er2]
        refine ⟨by rw [List.length_map, sizeLine_eq]; omega, ?_⟩
        have hel := List.length_eraseIdx_of_lt hk2
        have hnd' : (nm.eraseIdx r2).Nodup := hnd.sublist (List.eraseIdx_sublist ..)
        have hmem : nm[r2] ∈ nm := List.getElem_mem hk2
        have hout : nm[r2] ∉ nm.eraseIdx r2 := fun hz => by
          rw [List.mem_eraseIdx_iff_getElem] at hz
          obtain ⟨i, hi, hne, he⟩ := hz
          exact hne ((List.getElem_inj hnd).mp he)
        refine hN _ _ ⟨sets ++ [(nm[r2], t)], nm.eraseIdx r2, o4, _, rfl, ((((hx.self).put nq).self).put nr), by rw [gup_ne hsr, gup_same], ho4.mono (by omega), by rw [gup_ne hqr, gup_ne hsq.symm, gup_same], by rw [gup_same, List.map_append]; rfl, by rw [List.length_append, hsl]; rfl, by omega, fun z hz => hnm z (List.mem_of_mem_eraseIdx hz), hnd', fun p hp => ?_, ?_⟩
        · rcases List.mem_append.mp hp with hp | hp
          · exact fun z => hdj p hp (List.mem_of_mem_eraseIdx z)
          · rw [List.mem_singleton] at hp; subst hp; exact hout
        · refine ⟨fun p hp => ?_, fun p hp => ?_, ?_⟩
          · rcases List.mem_append.mp hp with hp | hp
            · exact hst.tm p hp
            · rw [List.mem_singleton] at hp; subst hp; exact ⟨ht, by show (t.dep : Int) + 1 ≤ left; omega⟩
          · rcases List.mem_append.mp hp with hp | hp
            · exact hst.nm p hp
            · rw [List.mem_singleton] at hp; subst hp; exact hnm _ hmem
          · rw [List.map_append]
            refine List.nodup_append.mpr ⟨hst.nd, by simp, fun x hx y hy => ?_⟩
            obtain ⟨p, hp, rfl⟩ := List.mem_map.mp hx
            have ey : y = nm[r2] := by simpa using hy
            rw [ey]
            exact fun z => hdj p hp (z ▸ hmem)
    rintro σ G4 ⟨sets, o1, x6, rfl, hx4, e4, ho4, er4, hsl, hst⟩
    refine seq_cut (fun σ' G' => ∃ t, σ' = [some (.ref s), some M.d, some (.int left), none, some (.ref q), some (.ref r), x6, some (.ref t)] ∧ s ≠ t ∧ r ≠ t ∧ G t = none ∧ Ext s G G' ∧ G' s = some o1 ∧ G' r = some (.lst (sets.map setD)) ∧ G' t = some (.lst [])) ?_ (fun N1 hN1 => ?_)
    rotate_left
    · walk_at "go"
      rename_i t nt
      have hst' := fr_ne e4 nt
      have hrt := fr_ne er4 nt
      exact hN1 _ _ ⟨t, rfl, hst', hrt, hx4.nn hst'.symm nt, hx4.new nt hst', by rw [gup_ne hst']; exact e4, by rw [gup_ne hrt]; exact er4, gup_same⟩
    rintro σ G5 ⟨t, rfl, hst', hrt, nt, hx5, e5, er5, et5⟩
    refine seq_cut (fun σ' G' => ∃ (sto : Option (Tm × Tm)) (o2 : GO), σ' = [some (.ref s), some M.d, some (.int left), none, some (.ref q), some (.ref r), x6, some (.ref t)] ∧ Ext s G G' ∧ G' s = some o2 ∧ SackO (k + 8000) o2 ∧ G' r = some (.lst (sets.map setD)) ∧ G' t = some (.lst (sto.toList.map stD)) ∧ (∀ p ∈ sto, p.1.ok M ∧ p.2.ok M ∧ (p.1.dep : Int) + 1 ≤ left ∧ (p.2.dep : Int) + 1 ≤ left)) ?_ (fun N1 hN1 => ?_)
    rotate_left
    · have no : ∀ G' o', Ext s G G' → G' s = some o' → SackO (k + 8000) o' → G' r = some (.lst (sets.map setD)) → G' t = some (.lst []) → N1 [some (.ref s), some M.d, some (.int left), none, some (.ref q), some (.ref r), x6, some (.ref t)] G' :=
        fun G' o' a b c d e => hN1 _ _ ⟨none, o', rfl, a, b, c, d, e, fun x hx => (by cases hx)⟩
      walk_at "go"
      split
      · walk_at "go"
        rename_i hl2 r5 o5 hr5 ho5
        split
        · walk_at "go"
          refine ⟨mty_at (by rw [gup_ne hst'.symm]; exact et5), ?_⟩
          refine go_term hM (by omega) gup_same ho5 (by omega) fun x o6 hx hdx ho6 => ?_
          walk_at "go"
          refine go_term hM (by omega) gup_same ho6 (by omega) fun y o7 hy hdy ho7 => ?_
          walk_at "go"
          rw [atL_at (by rw [gup_ne hst'.symm]; exact et5)]
          refine ⟨by rw [sizeLine_eq]; simp, ?_⟩
          refine hN1 _ _ ⟨some (x, y), o7, rfl, (hx5.self).put nt, by rw [gup_ne hst', gup_same], ho7.mono (by omega), by rw [gup_ne hrt, gup_ne hsr.symm]; exact er5, gup_same, fun z hz => ?_⟩
          cases hz
          exact ⟨hx, hy, by show (x.dep : Int) + 1 ≤ left; omega, by show (y.dep : Int) + 1 ≤ left; omega⟩
        · walk_at "go"
          exact no _ o5 hx5.self gup_same (ho5.mono (by omega)) (by rw [gup_ne hsr.symm]; exact er5) (by rw [gup_ne hst'.symm]; exact et5)
      · walk_at "go"
        exact no _ o1 hx5 e5 (ho4.mono (by omega)) er5 et5
    rintro σ G6 ⟨sto, o2, rfl, hx6, e6, ho6, er6, et6, hsp⟩
    walk_at "go"
    rw [tuple_r er6]
    walk_at "go"
    rw [tuple_r et6]
    refine ⟨by decide, rt_ext hx6 e6 (h (.doo sets sto) o2 ?_ ?_ (ho6.mono (by omega)))⟩
    · refine ⟨by omega, fun p hp => ⟨(hst.tm p hp).1, by have := (hst.tm p hp).2; omega⟩, fun p hp => ?_, hst.nm, hst.nd⟩
      obtain ⟨h1, h2, h3, h4⟩ := hsp p hp
      exact ⟨⟨h1, by omega⟩, ⟨h2, by omega⟩⟩
    · have h1 : setsL sets ≤ left.toNat - 1 := setsL_le fun p hp => by have := (hst.tm p hp).2; omega
      have h2 : stL sto ≤ left.toNat - 1 := by
        cases sto with
        | none => exact Nat.zero_le _
        | some p => obtain ⟨_, _, h3, h4⟩ := hsp p rfl; simp only [stL]; omega
      simp only [Mn.lvl]
      omega
theorem ok__law_plan_n {P : Program} {w : World} {K : PySem.W.Frag} {mg : Str → Option Value} {base : Heap} {a : Ad} (T : Tx w K mg a) : ∀ n : Nat, FnD P w K mg base (n + 11) a.f__law_plan a.fd__law_plan ["sack", "own", "left"] (sp__law_plan n)
  | 0 => ok0__law_plan T (j := 0) fnd_never (by omega) (fun m e => by omega)
  | n + 1 => ok0__law_plan T (ok__law_plan_n T n) (by omega) (fun m e ds G R h => by
    have : n = m := by omega
    subst this
    exact h)
theorem ok__law_plan {P : Program} {w : World} {K : PySem.W.Frag} {mg : Str → Option Value} {base : Heap} {a : Ad} (T : Tx w K mg a) : FnD P w K mg base 18 a.f__law_plan a.fd__law_plan ["sack", "own", "left"] (sp__law_plan 7) := ok__law_plan_n T 7
theorem pb6 {n : Nat} (h : n ≤ 4) : pb n ≤ 152000 := by
  rcases (show n = 0 ∨ n = 1 ∨ n = 2 ∨ n = 3 ∨ n = 4 by omega) with rfl | rfl | rfl | rfl | rfl <;> decide
theorem go_plan6 {s : Addr} {M : Mach} {G : Gp} {R : DK} {o : GO} {k : Nat} {left : Int} (hM : M.ok) (h1 : 1 ≤ left) (h6 : left ≤ 6) (e : G s = some o) (h : SackO k o) (hk : k ≤ 500000) (q : ∀ (x : Mn) (o' : GO), x.ok M → (x.lvl : Int) ≤ left → SackO (k + 152000) o' → R x.d (gup G s o')) : sp__law_plan 7 [.ref s, M.d, .int left] G R :=
  ⟨s, M, k, o, left, rfl, hM, by omega, h1, by omega, e, h, by have := pb6 (n := (left - 2).toNat) (by omega); omega, fun x o' h1 h2 h3 => q x o' h1 h2 (h3.mono (by have := pb6 (n := (left - 2).toNat) (by omega); omega))⟩
def sp__law_any_plan : DSp := fun ds G R => ∃ (s : Addr) (M : Mach) (k : Nat) (o : GO), ds = [.ref s, M.d] ∧ M.ok ∧ G s = some o ∧ SackO k o ∧ k ≤ 400000 ∧ ∀ (x : Mn) (o' : GO), x.ok M → x.lvl ≤ 6 → SackO (k + 153000) o' → R x.d (gup G s o')
local macro_rules | `(tactic| walk_at "x") => `(tactic| first
  | refine go_pull (by first | exact gup_same | assumption | fail) (by assumption) (by omega) (by walk_at "side") (by walk_at "side") fun _ _ _ _ => ?_
  | fail)
theorem ok__law_any_plan {P : Program} {w : World} {K : PySem.W.Frag} {mg : Str → Option Value} {base : Heap} {a : Ad} (T : Tx w K mg a) : FnD P w K mg base 19 a.f__law_any_plan a.fd__law_any_plan ["sack", "own"] sp__law_any_plan := by
  refine fun_okD T.F__law_any_plan sc__law_any_plan (fun ds G R h => ?_) (fun cdv A outer s H hr => ⟨_, (qss_one (qs_ret (qe_call (ok__law_plan T) (hr.mono (by omega)) rfl T.g__law_plan T.F__law_plan.kp T.b__law_plan (qa_cons (qv 0) (qa_cons (qv 1) (qa_cons (qe_ix xd_ix (qe_lst false (qa_cons (qe_op (od_add false) qe_int (qe_call (ok__law_pull T) (hr.mono (by omega)) rfl T.g__law_pull T.F__law_pull.kp T.b__law_pull (qa_cons (qv 0) (qa_cons qe_int qa_nil)))) (qa_cons qe_int (qa_cons qe_int qa_nil)))) (qe_call (ok__law_pull T) (hr.mono (by omega)) rfl T.g__law_pull T.F__law_pull.kp T.b__law_pull (qa_cons (qv 0) (qa_cons qe_int qa_nil))) (fun _ _ => rfl)) qa_nil)))))), fun ds G R h => ?_⟩)
  · obtain ⟨s, M, k, o, rfl, _⟩ := h; rfl
  · obtain ⟨s, M, k, o, rfl, hM, e, ho, hk, h⟩ := h
    walk_at "go"
    rename_i r1 o1 hr1 ho1 r2 o2 hr2 ho2
    refine pick (by walk_at "side") fun x hx => ?_
    obtain ⟨l, rfl, hl1, hl2⟩ : ∃ l : Int, x = .int l ∧ 1 ≤ l ∧ l ≤ 6 := by
      simp only [List.mem_cons, List.not_mem_nil, or_false] at hx
      rcases hx with rfl | rfl | rfl
      · exact ⟨_, rfl, by omega, by omega⟩
      · exact ⟨_, rfl, by omega, by omega⟩
      · exact ⟨_, rfl, by omega, by omega⟩
    refine go_plan6 hM hl1 (by omega) gup_same ho2 (by omega) fun x o3 hx hlx ho3 => ?_
    walk_at "go"
    exact h x o3 hx (by omega) (ho3.mono (by omega))
theorem go_anyplan {s : Addr} {M : Mach} {G : Gp} {R : DK} {o : GO} {k : Nat} (hM : M.ok) (e : G s = some o) (h : SackO k o) (hk : k ≤ 400000) (q : ∀ (x : Mn) (o' : GO), x.ok M → x.lvl ≤ 6 → SackO (k + 153000) o' → R x.d (gup G s o')) : sp__law_any_plan [.ref s, M.d] G R := ⟨s, M, k, o, rfl, hM, e, h, hk, q⟩
end K19


set_option Elab.async false
set_option linter.all false
set_option maxRecDepth 100000
set_option maxHeartbeats 4000000
set_option autoImplicit false
namespace K19
open PySem PySem.Spec PyProof.Rows L2 DL
local macro_rules | `(tactic| walk_at "d") => `(tactic| dsimp only [dSeq, dNext, dIfS, dRet, dRetN, dAsg, dName, dVar, dC, dOp, dUn, dChain, dB, dAnd, dOr, dNot, dAndV, dOrV, dNotV, dIf, dNil, dCons, dTup, dLst, newL, dCallB, dCall, dCallK, dDrop, dAug, dAugS, dSub, dM, dM0, dSlice, dNoPart, dPart, dLc, dYes, dFor, dIter, dRng1, dEnum, dZipM, srcD, dStar, dInK, dIxK, dLenSet, dRev,
  startD, wipeD, setAll, dNames, List.map_cons, List.map_nil, List.length_cons, List.length_nil, List.replicate, List.cons_append, List.nil_append, List.append_nil, List.getElem?_cons_zero, List.getElem?_cons_succ, List.set_cons_zero, List.set_cons_succ, List.map, Nat.zero_add, Nat.reduceAdd, Nat.reduceSub, Nat.sub_self, Nat.succ_sub_succ_eq_sub])
local macro_rules | `(tactic| walk_at "o") => `(tactic| simp only [dAdd_ii, dAdd_ss, dAdd_tt, dAdd_ll, dMinus_ii, dMul_ii, dMod_ii, dFdiv_ii, dPow_ii, dShl_ii, dNeg_i, dIadd_ii, dLt_ii, dLe_ii, dGt_ii, dGe_ii, dEq_ii, dNe_ii, dEq_ss, dNe_ss, dEq_bb, dNe_bb, dIs_n, dIsNot_n, dMax2_ii, dMin2_ii, dTuple_t, dTuple_l, dList_t, dList_l, dIx_t, dIx_l, dIx_s, dSl_t, dSl_l, dSl_s, newL_f, len_tup, len_lst])
local macro_rules | `(tactic| walk_at "w") => `(tactic| dsimp only [x_var, x_c, x_op, x_un, x_b, x_and, x_or, x_not, x_chain, x_andV, x_orV, x_notV, x_if, x_nil, x_cons, x_tup, x_lst0, x_lst1, x_callB, x_call, x_callK, x_next, x_seq, x_break, x_cont, x_drop, x_ret, x_ifS, x_asg, x_name, x_names, x_sub, x_aug, x_augS, x_for, x_lc0, x_lc1, x_yes, x_noPart, x_part, x_slice, x_iter, it_t, it_l, it_n, it_s, it_r, x_rng1, x_enum, x_rev, x_m, x_m0, x_mX, x_zip, x_star_t, x_star_l, x_lenSet, x_forgo0, x_lcgo0, x_while, x_par, x_sortK,
  br_t, br_f, isB_bl, isI_int, isN_some, slo_some, atL_lst, ix_t, ix_l, ix_n,
  dAdd_ii, dAdd_ss, dAdd_tt, dAdd_ll, dMinus_ii, dMul_ii, dMod_ii, dFdiv_ii, dPow_ii, dShl_ii, dNeg_i, dIadd_ii, dLt_ii, dLe_ii, dGt_ii, dGe_ii, ltE_ii, ltE_ss, srcD, isi_i, isi_s, isi_b, isi_n, isi_t, isi_nt, isi_l, isi2_i, isi2_s, isi2_b, isi2_n, isi2_t, isi2_nt, isi2_l, inon_n, inon_i, inon_s, inon_b, inon_t, inon_l, inon_r, dEq_ii, dNe_ii, dEq_ss, dNe_ss, dEq_bb, dNe_bb, dIs_n, dIsNot_n, dMax2_ii, dMin2_ii, dTuple_t, dTuple_l, dList_t, dList_l, dSl_t, dSl_l, dSl_s, newL_f, newL_t, app_r, int_b, int_i, strI_i, strX_i, strX_s,
  startD, wipeD, setAll, permL, List.filterMap, List.map_cons, List.map_nil, List.length_cons, List.length_nil, List.replicate, List.cons_append, List.nil_append, List.append_nil, List.getElem?_cons_zero, List.getElem?_cons_succ, List.set_cons_zero, List.set_cons_succ, List.map, Nat.zero_add, Nat.reduceAdd, Nat.reduceSub, Nat.sub_self, Nat.succ_sub_succ_eq_sub])
local macro_rules | `(tactic| walk_at "v") => `(tactic| simp only [ofString_inj, String.reduceEq, at_0, at_1, at_2, at_3, at_4, at_5, isN_some, isBB_bl, isB_bl, br_t, br_f, br_not, br_and, br_or, br_dec, ix_r, len_tup, len_lst, len_nt, ltE_key, gup_gup, gup_same, starD_one, cut1, cut2, kt1, kt2, kt3, kt4, kt5, kt6, isTy, String.reduceBEq, Bool.or_false, Bool.false_or, Bool.true_or, Bool.or_true, Bool.and_false, Bool.false_and, Bool.true_and, Bool.and_true, Bool.not_true, Bool.not_false, decide_true, decide_false, eq_self_iff_true, Bool.false_eq_true, Int.reduceAdd, Int.add_zero, if_true, if_false, true_and, and_true])
local macro_rules | `(tactic| walk_at "side") => `(tactic| first | with_reducible assumption | omega | exact mty_up | exact True.intro | (simp only [List.mem_cons, ofString_inj, String.reduceEq, true_or, or_true, List.length_map]; done) | with_reducible exact (rfl : (_ : Nat) = _) | exact (rfl : (_ : Option String) = _) | (refine small_line ?_; omega) | (walk_at "ll"; first | omega | (refine small_line ?_; omega) | fail) | (exact log_small (by omega)) | fail)
local macro_rules | `(tactic| walk_at "x") => `(tactic| fail)
local macro_rules | `(tactic| walk_at "go") => `(tactic| repeat' (first | dsimp only [x_var, x_c, x_op, x_un, x_b, x_and, x_or, x_not, x_chain, x_andV, x_orV, x_notV, x_if, x_nil, x_cons, x_tup, x_lst0, x_lst1, x_callB, x_call, x_callK, x_next, x_seq, x_break, x_cont, x_drop, x_ret, x_ifS, x_asg, x_name, x_names, x_sub, x_aug, x_augS, x_for, x_lc0, x_lc1, x_yes, x_noPart, x_part, x_slice, x_iter, it_t, it_l, it_n, it_s, it_r, x_rng1, x_enum, x_rev, x_m, x_m0, x_mX, x_zip, x_star_t, x_star_l, x_lenSet, x_forgo0, x_lcgo0, x_while, x_par, x_sortK, br_t, br_f, isB_bl, isI_int, isN_some, slo_some, atL_lst, ix_t, ix_l, ix_n, dAdd_ii, dAdd_ss, dAdd_tt, dAdd_ll, dMinus_ii, dMul_ii, dMod_ii, dFdiv_ii, dPow_ii, dShl_ii, dNeg_i, dIadd_ii, dLt_ii, dLe_ii, dGt_ii, dGe_ii, ltE_ii, ltE_ss, srcD, isi_i, isi_s, isi_b, isi_n, isi_t, isi_nt, isi_l, isi2_i, isi2_s, isi2_b, isi2_n, isi2_t, isi2_nt, isi2_l, inon_n, inon_i, inon_s, inon_b, inon_t, inon_l, inon_r, dEq_ii, dNe_ii, dEq_ss, dNe_ss, dEq_bb, dNe_bb, dIs_n, dIsNot_n, dMax2_ii, dMin2_ii, dTuple_t, dTuple_l, dList_t, dList_l, dSl_t, dSl_l, dSl_s, newL_f, newL_t, app_r, int_b, int_i, strI_i, strX_i, strX_s, startD, wipeD, setAll, permL, List.filterMap, List.map_cons, List.map_nil, List.length_cons, List.length_nil, List.replicate, List.cons_append, List.nil_append, List.append_nil, List.getElem?_cons_zero, List.getElem?_cons_succ, List.set_cons_zero, List.set_cons_succ, List.map, Nat.zero_add, Nat.reduceAdd, Nat.reduceSub, Nat.sub_self, Nat.succ_sub_succ_eq_sub] | simp only [ofString_inj, String.reduceEq, at_0, at_1, at_2, at_3, at_4, at_5, isN_some, isBB_bl, isB_bl, br_t, br_f, br_not, br_and, br_or, br_dec, ix_r, len_tup, len_lst, len_nt, ltE_key, gup_gup, gup_same, starD_one, cut1, cut2, kt1, kt2, kt3, kt4, kt5, kt6, isTy, String.reduceBEq, Bool.or_false, Bool.false_or, Bool.true_or, Bool.or_true, Bool.and_false, Bool.false_and, Bool.true_and, Bool.and_true, Bool.not_true, Bool.not_false, decide_true, decide_false, eq_self_iff_true, Bool.false_eq_true, Int.reduceAdd, Int.add_zero, if_true, if_false, true_and, and_true] | walk_at "x" | with_reducible refine kont_go ?_ | with_reducible refine rt_sub (by assumption) ?_ | with_reducible refine rt_lst (by assumption) ?_ | with_reducible refine rt_drop (by assumption) ?_ | with_reducible refine rt_keep (by assumption) (by assumption) ?_ | with_reducible refine rt_same ?_ | (refine fun (p : Addr) (_ : _ = none) => ?_) | refine join_gor gup_same rfl (by walk_at "side") ?_ | with_reducible refine lc_cons ?_ | with_reducible refine for_cons ?_ | refine join_go rfl (by walk_at "side") ?_ | refine And.intro (by first | with_reducible assumption | omega | exact mty_up | exact True.intro | (simp only [List.mem_cons, ofString_inj, String.reduceEq, true_or, or_true, List.length_map]; done) | with_reducible exact (rfl : (_ : Nat) = _) | exact (rfl : (_ : Option String) = _) | (refine small_line ?_; omega) | (walk_at "ll"; first | omega | (refine small_line ?_; omega) | fail) | (exact log_small (by omega)) | fail) ?_ | fail))
local macro_rules | `(tactic| walk_at "ll") => `(tactic| simp only [List.length_map, List.length_append, List.length_cons, List.length_nil, List.map_cons, List.map_nil, List.sum_cons, List.sum_nil, len_app, rng_length, ll_0, ll_1, ll_2, ll_3, ll_4, ll_5, ll_6, ll_7, ll_8, ll_9, ll_10, ll_11, ll_12, ll_13, ll_14, ll_15, ll_16, ll_17, ll_18, ll_19, ll_20, ll_21, ll_22, ll_23, ll_24, ll_25, ll_26, ll_27, ll_28, ll_29, ll_30, ll_31, ll_32, ll_33, ll_34, ll_35, ll_36, ll_37, ll_38, ll_39, ll_40, ll_41, ll_42, ll_43, ll_44, ll_45, ll_46, ll_47, ll_48, ll_49, ll_50, ll_51, ll_52, ll_53, ll_54])
/-! ### terms and meanings as texts, and as words -/
def numT (k : Nat) : Str := Str.ofString (toString (k : Int))
def Tm.txt : Tm → Str
  | .num w => numT w | .reg x => x | .load t => Str.ofString "[" ++ t.txt ++ Str.ofString "]"
  | .op o t u => Str.ofString "(" ++ t.txt ++ Str.ofString " " ++ o ++ Str.ofString " " ++ u.txt ++ Str.ofString ")"
def setT (p : Str × Tm) : Str := p.1 ++ Str.ofString " = " ++ p.2.txt
def stT (p : Tm × Tm) : Str := Str.ofString "[" ++ p.1.txt ++ Str.ofString "] = " ++ p.2.txt
def Mn.txt : Mn → Str
  | .doo sets st => if sets.map setT ++ st.toList.map stT ≠ [] then Txt.join " ; " (sets.map setT ++ st.toList.map stT) else Str.ofString "nop"
  | .ite t m n => Str.ofString "if " ++ t.txt ++ Str.ofString " then " ++ (Str.ofString "{ " ++ m.txt ++ Str.ofString " }") ++ Str.ofString " else " ++ (Str.ofString "{ " ++ n.txt ++ Str.ofString " }")
def Tm.tok : Tm → List Str
  | .num w => [numT w] | .reg x => [x] | .load t => Str.ofString "[" :: (t.tok ++ [Str.ofString "]"])
  | .op o t u => Str.ofString "(" :: (t.tok ++ (o :: (u.tok ++ [Str.ofString ")"])))
def setK (p : Str × Tm) : List Str := p.1 :: Str.ofString "=" :: p.2.tok
def stK (p : Tm × Tm) : List Str := Str.ofString "[" :: (p.1.tok ++ (Str.ofString "]" :: Str.ofString "=" :: p.2.tok))
/-- items by their words, a semicolon between them -/
def semis : List (List Str) → List Str
  | [] => [] | [a] => a | a :: b :: r => a ++ (Str.ofString ";" :: semis (b :: r))
def Mn.tok : Mn → List Str
  | .doo sets st => if sets.map setT ++ st.toList.map stT ≠ [] then semis (sets.map setK ++ st.toList.map stK) else [Str.ofString "nop"]
  | .ite t m n => Str.ofString "if" :: (t.tok ++ (Str.ofString "then" :: Str.ofString "{" :: (m.tok ++ (Str.ofString "}" :: Str.ofString "else" :: Str.ofString "{" :: (n.tok ++ [Str.ofString "}"])))))
/-! ### a text's words -/
def figc (c : Nat) : Bool := decide (48 ≤ c) && decide (c ≤ 57)
def wd (c : Nat) : Bool := low c || figc c
def sg (c : Nat) : Bool := decide (c ∈ [91, 93, 40, 41, 123, 125, 59, 61])
def addLast (f : List Str) (c : Nat) : List Str := match f.getLast? with | some z => f.dropLast ++ [z ++ ⟨#[c]⟩] | none => []
def lexStep (near : Bool) (f : List Str) (c : Nat) : List Str := if sg c then f ++ [⟨#[c]⟩] else if (near && wd c) = true then addLast f c else if c ≠ 32 then f ++ [⟨#[c]⟩] else f
def lex : List Nat → Bool → List Str → List Str
  | [], _, f => f
  | c :: r, near, f => lex r (wd c) (lexStep near f c)
/-- no word goes on here -/
def Stops (r : List Nat) : Prop := ∀ c s, r = c :: s → wd c = false
theorem stops_nil : Stops [] := fun _ _ h => by cases h
theorem stops_cons {c : Nat} {s : List Nat} (h : wd c = false) : Stops (c :: s) := fun _ _ e => by cases e; exact h
theorem lex_stop {r : List Nat} (h : Stops r) (f : List Str) : lex r true f = lex r false f := by
  cases r with
  | nil => rfl
  | cons c s =>
    have := h c s rfl
    simp only [lex, lexStep, this, Bool.and_false]
theorem wd_sg {c : Nat} (h : wd c = true) : sg c = false ∧ c ≠ 32 := by
  unfold wd low figc at h
  unfold sg
  simp only [Bool.or_eq_true, Bool.and_eq_true, decide_eq_true_eq] at h
  refine ⟨?_, by omega⟩
  rw [decide_eq_false_iff_not]
  simp only [List.mem_cons, List.not_mem_nil, or_false]
  omega
theorem lex_on {s : List Nat} (r : List Nat) (f : List Str) : ∀ (z : Str), (∀ c ∈ s, wd c = true) → lex (s ++ r) true (f ++ [z]) = lex r true (f ++ [z ++ ⟨s.toArray⟩]) := by
  induction s with
  | nil =>
    intro z _
    rw [List.nil_append, show z ++ (⟨[].toArray⟩ : Str) = z from cds_inj (by rw [cds_app]; simp [cds])]
  | cons c s ih =>
    intro z h
    have hc := h c List.mem_cons_self
    obtain ⟨h1, h2⟩ := wd_sg hc
    rw [List.cons_append, lex]
    have e : lexStep true (f ++ [z]) c = f ++ [z ++ ⟨#[c]⟩] := by
      unfold lexStep addLast
      rw [h1, hc]
      simp
    rw [e, hc, ih _ fun x hx => h x (List.mem_cons_of_mem _ hx)]
    congr 3
    refine cds_inj ?_
    rw [cds_app, cds_app, cds_app]
    simp [cds]
/-- a word -/
def Wd (w : Str) : Prop := cds w ≠ [] ∧ ∀ c ∈ cds w, wd c = true
theorem lex_word {w : Str} (h : Wd w) {r : List Nat} (hr : Stops r) (f : List Str) : lex (cds w ++ r) false f = lex r false (f ++ [w]) := by
  obtain ⟨h0, h1⟩ := h
  cases e : cds w with
  | nil => exact absurd e h0
  | cons c s =>
    rw [e] at h1
    have hc := h1 c List.mem_cons_self
    obtain ⟨h2, h3⟩ := wd_sg hc
    rw [List.cons_append, lex]
    have e2 : lexStep false f c = f ++ [⟨#[c]⟩] := by
      unfold lexStep
      rw [h2, Bool.false_and, if_neg (by decide), if_neg (by decide), if_pos h3]
    rw [e2, hc, lex_on _ _ _ fun x hx => h1 x (List.mem_cons_of_mem _ hx), lex_stop hr]
    congr 3
    refine cds_inj ?_
    rw [cds_app, e]
    simp [cds]
theorem lex_sign {c : Nat} (h : sg c = true) (near : Bool) (r : List Nat) (f : List Str) : lex (c :: r) near f = lex r false (f ++ [⟨#[c]⟩]) := by
  have hw : wd c = false := by
    cases e : wd c with
    | false => rfl
    | true => have := (wd_sg e).1; rw [h] at this; cases this
  rw [lex, hw]
  unfold lexStep
  rw [if_pos h]
theorem lex_blank (near : Bool) (r : List Nat) (f : List Str) : lex (32 :: r) near f = lex r false f := by
  rw [lex, show wd 32 = false by decide]
  unfold lexStep
  rw [if_neg (by decide), show (near && wd 32) = false by rw [show wd 32 = false by decide, Bool.and_false], if_neg (by decide), if_neg (by decide)]
theorem name_wd {z : Str} (h : nameOk z = true) : Wd z := by
  obtain ⟨⟨h1, _⟩, h3⟩ := nameOk_iff.mp h
  refine ⟨fun e => by rw [e] at h1; simp at h1, fun c hc => ?_⟩
  unfold wd
  rw [h3 c hc]
  rfl
theorem num_wdF : ∀ k : Fin 301, (cds (numT k.val)).all wd = true ∧ (cds (numT k.val)).isEmpty = false := by decide +kernel
theorem num_wd {k : Nat} (h : k ≤ 300) : Wd (numT k) := by
  obtain ⟨h1, h2⟩ := num_wdF ⟨k, by omega⟩
  refine ⟨fun e => ?_, List.all_eq_true.mp h1⟩
  rw [e] at h2
  cases h2
theorem op_wd : ∀ o ∈ opL, Wd o := by
  have : ∀ o ∈ opL, (cds o).all wd = true ∧ (cds o).isEmpty = false := by decide +kernel
  intro o ho
  obtain ⟨h1, h2⟩ := this o ho
  refine ⟨fun e => ?_, List.all_eq_true.mp h1⟩
  rw [e] at h2
  cases h2
theorem lex_tm {M : Mach} (hM : M.ok) : ∀ {x : Tm}, x.ok M → ∀ {r : List Nat}, Stops r → ∀ f, lex (cds x.txt ++ r) false f = lex r false (f ++ x.tok)
  | .num w, hx, r, hr, f => by
    have htop := top_le hM.b1 hM.b2
    have hx : (w : Int) < 2 ^ M.b.toNat := hx
    exact lex_word (num_wd (by omega)) hr f
  | .reg x, hx, r, hr, f => lex_word (name_wd (hM.nm.1 x hx)) hr f
  | .load t, hx, r, hr, f => by
    simp only [Tm.txt, Tm.tok, cds_app, List.append_assoc]
    rw [show cds (Str.ofString "[") = [91] by decide +kernel, show cds (Str.ofString "]") = [93] by decide +kernel, List.singleton_append, List.singleton_append, lex_sign (by decide), lex_tm hM (x := t) hx (stops_cons (by decide)), lex_sign (by decide)]
    congr 1
    simp only [List.append_assoc, List.singleton_append]
    rfl
  | .op o t u, hx, r, hr, f => by
    obtain ⟨h1, h2, h3⟩ := hx
    simp only [Tm.txt, Tm.tok, cds_app, List.append_assoc]
    rw [show cds (Str.ofString "(") = [40] by decide +kernel, show cds (Str.ofString ")") = [41] by decide +kernel, show cds (Str.ofString " ") = [32] by decide +kernel]
    simp only [List.singleton_append]
    rw [lex_sign (by decide), lex_tm hM (x := t) h2 (stops_cons (by decide)), lex_blank, lex_word (op_wd o h1) (stops_cons (by decide)), lex_blank, lex_tm hM (x := u) h3 (stops_cons (by decide)), lex_sign (by decide)]
    congr 1
    simp only [List.append_assoc, List.singleton_append, List.cons_append]
    rfl
theorem set_lex {M : Mach} (hM : M.ok) {p : Str × Tm} (h1 : p.1 ∈ M.names) (h2 : p.2.ok M) {r : List Nat} (hr : Stops r) (f : List Str) : lex (cds (setT p) ++ r) false f = lex r false (f ++ setK p) := by
  unfold setT setK
  simp only [cds_app, List.append_assoc]
  rw [show cds (Str.ofString " = ") = [32, 61, 32] by decide +kernel]
  simp only [List.cons_append, List.nil_append]
  rw [lex_word (name_wd (hM.nm.1 _ h1)) (stops_cons (by decide)), lex_blank, lex_sign (by decide), lex_blank, lex_tm hM h2 hr]
  congr 1
  simp only [List.append_assoc, List.singleton_append, List.cons_append]
  rfl
theorem st_lex {M : Mach} (hM : M.ok) {p : Tm × Tm} (h1 : p.1.ok M) (h2 : p.2.ok M) {r : List Nat} (hr : Stops r) (f : List Str) : lex (cds (stT p) ++ r) false f = lex r false (f ++ stK p) := by
  unfold stT stK
  simp only [cds_app, List.append_assoc]
  rw [show cds (Str.ofString "[") = [91] by decide +kernel, show cds (Str.ofString "] = ") = [93, 32, 61, 32] by decide +kernel]
  simp only [List.cons_append, List.nil_append]
  rw [lex_sign (by decide), lex_tm hM h1 (stops_cons (by decide)), lex_sign (by decide), lex_blank, lex_sign (by decide), lex_blank, lex_tm hM h2 hr]
  congr 1
  simp only [List.append_assoc, List.singleton_append, List.cons_append]
  rfl
theorem semis_lex : ∀ (zs : List (Str × List Str)), (∀ z ∈ zs, ∀ {r : List Nat}, Stops r → ∀ f, lex (cds z.1 ++ r) false f = lex r false (f ++ z.2)) → ∀ {r : List Nat}, Stops r → ∀ f, lex (cds (Txt.join " ; " (zs.map (·.1))) ++ r) false f = lex r false (f ++ semis (zs.map (·.2)))
  | [], _, r, hr, f => by rw [cds_join]; simp [semis]
  | [z], h, r, hr, f => by
    have := h z List.mem_cons_self hr f
    rw [cds_join]
    simpa [semis] using this
  | z :: y :: zs, h, r, hr, f => by
    have ih := semis_lex (y :: zs) (fun x hx => h x (List.mem_cons_of_mem _ hx)) hr
    rw [cds_join] at ih ⊢
    simp only [List.map_cons, List.intersperse_cons₂, List.flatten_cons, List.append_assoc] at ih ⊢
    rw [show cds (" ; " : Str) = [32, 59, 32] by decide +kernel] at ih ⊢
    simp only [List.cons_append, List.nil_append]
    rw [h z List.mem_cons_self (stops_cons (by decide)), lex_blank, lex_sign (by decide), lex_blank, ih]
    congr 1
    simp only [semis, List.append_assoc, List.singleton_append]
    rfl
theorem lex_mn {M : Mach} (hM : M.ok) : ∀ {x : Mn}, x.ok M → ∀ {r : List Nat}, Stops r → ∀ f, lex (cds x.txt ++ r) false f = lex r false (f ++ x.tok)
  | .doo sets st, hx, r, hr, f => by
    obtain ⟨h1, h2, h3, h4, h5⟩ := hx
    simp only [Mn.txt, Mn.tok]
    by_cases hz : sets.map setT ++ st.toList.map stT ≠ []
    · rw [if_pos hz, if_pos hz]
      have e1 : sets.map setT ++ st.toList.map stT = (sets.map (fun p => (setT p, setK p)) ++ st.toList.map fun p => (stT p, stK p)).map (·.1) := by rw [List.map_append, List.map_map, List.map_map]; rfl
      have e2 : sets.map setK ++ st.toList.map stK = (sets.map (fun p => (setT p, setK p)) ++ st.toList.map fun p => (stT p, stK p)).map (·.2) := by rw [List.map_append, List.map_map, List.map_map]; rfl
      rw [e1, e2]
      refine semis_lex _ (fun z hz r hr f => ?_) hr f
      rcases List.mem_append.mp hz with hz | hz
      · obtain ⟨p, hp, rfl⟩ := List.mem_map.mp hz
        exact set_lex hM (h4 p hp) (h2 p hp).1 hr f
      · obtain ⟨p, hp, rfl⟩ := List.mem_map.mp hz
        have := h3 p (by simpa using hp)
        exact st_lex hM this.1.1 this.2.1 hr f
    · rw [if_neg hz, if_neg hz]
      exact lex_word ⟨by decide +kernel, by decide +kernel⟩ hr f
  | .ite t m n, hx, r, hr, f => by
    obtain ⟨h1, h2, h3⟩ := hx
    simp only [Mn.txt, Mn.tok, cds_app, List.append_assoc]
    rw [show cds (Str.ofString "if ") = cds (Str.ofString "if") ++ [32] by decide +kernel, show cds (Str.ofString " then ") = 32 :: (cds (Str.ofString "then") ++ [32]) by decide +kernel, show cds (Str.ofString " else ") = 32 :: (cds (Str.ofString "else") ++ [32]) by decide +kernel, show cds (Str.ofString "{ ") = [123, 32] by decide +kernel, show cds (Str.ofString " }") = [32, 125] by decide +kernel]
    simp only [List.append_assoc, List.cons_append, List.nil_append]
    have wi : Wd (Str.ofString "if") := ⟨by decide +kernel, by decide +kernel⟩
    have wt : Wd (Str.ofString "then") := ⟨by decide +kernel, by decide +kernel⟩
    have we : Wd (Str.ofString "else") := ⟨by decide +kernel, by decide +kernel⟩
    rw [lex_word wi (stops_cons (by decide)), lex_blank, lex_tm hM h1.1 (stops_cons (by decide)), lex_blank, lex_word wt (stops_cons (by decide)), lex_blank, lex_sign (by decide), lex_blank, lex_mn hM h2 (stops_cons (by decide)), lex_blank, lex_sign (by decide), lex_blank, lex_word we (stops_cons (by decide)), lex_blank, lex_sign (by decide), lex_blank, lex_mn hM h3 (stops_cons (by decide)), lex_blank, lex_sign (by decide)]
    congr 1
    simp only [List.append_assoc, List.singleton_append, List.cons_append]
    rfl
theorem words_mn {M : Mach} (hM : M.ok) {x : Mn} (hx : x.ok M) : lex (cds x.txt) false [] = x.tok := by
  have := lex_mn hM hx stops_nil []
  rwa [List.append_nil, List.nil_append] at this
end K19


set_option Elab.async false
set_option linter.all false
set_option maxRecDepth 100000
set_option maxHeartbeats 4000000
set_option autoImplicit false
namespace K19
open PySem PySem.Spec PyProof.Rows L2 DL
local macro_rules | `(tactic| walk_at "d") => `(tactic| dsimp only [dSeq, dNext, dIfS, dRet, dRetN, dAsg, dName, dVar, dC, dOp, dUn, dChain, dB, dAnd, dOr, dNot, dAndV, dOrV, dNotV, dIf, dNil, dCons, dTup, dLst, newL, dCallB, dCall, dCallK, dDrop, dAug, dAugS, dSub, dM, dM0, dSlice, dNoPart, dPart, dLc, dYes, dFor, dIter, dRng1, dEnum, dZipM, srcD, dStar, dInK, dIxK, dLenSet, dRev,
  startD, wipeD, setAll, dNames, List.map_cons, List.map_nil, List.length_cons, List.length_nil, List.replicate, List.cons_append, List.nil_append, List.append_nil, List.getElem?_cons_zero, List.getElem?_cons_succ, List.set_cons_zero, List.set_cons_succ, List.map, Nat.zero_add, Nat.reduceAdd, Nat.reduceSub, Nat.sub_self, Nat.succ_sub_succ_eq_sub])
local macro_rules | `(tactic| walk_at "o") => `(tactic| simp only [dAdd_ii, dAdd_ss, dAdd_tt, dAdd_ll, dMinus_ii, dMul_ii, dMod_ii, dFdiv_ii, dPow_ii, dShl_ii, dNeg_i, dIadd_ii, dLt_ii, dLe_ii, dGt_ii, dGe_ii, dEq_ii, dNe_ii, dEq_ss, dNe_ss, dEq_bb, dNe_bb, dIs_n, dIsNot_n, dMax2_ii, dMin2_ii, dTuple_t, dTuple_l, dList_t, dList_l, dIx_t, dIx_l, dIx_s, dSl_t, dSl_l, dSl_s, newL_f, len_tup, len_lst])
local macro_rules | `(tactic| walk_at "w") => `(tactic| dsimp only [x_var, x_c, x_op, x_un, x_b, x_and, x_or, x_not, x_chain, x_andV, x_orV, x_notV, x_if, x_nil, x_cons, x_tup, x_lst0, x_lst1, x_callB, x_call, x_callK, x_next, x_seq, x_break, x_cont, x_drop, x_ret, x_ifS, x_asg, x_name, x_names, x_sub, x_aug, x_augS, x_for, x_lc0, x_lc1, x_yes, x_noPart, x_part, x_slice, x_iter, it_t, it_l, it_n, it_s, it_r, x_rng1, x_enum, x_rev, x_m, x_m0, x_mX, x_zip, x_star_t, x_star_l, x_lenSet, x_forgo0, x_lcgo0, x_while, x_par, x_sortK,
  br_t, br_f, isB_bl, isI_int, isN_some, slo_some, atL_lst, ix_t, ix_l, ix_n,
  dAdd_ii, dAdd_ss, dAdd_tt, dAdd_ll, dMinus_ii, dMul_ii, dMod_ii, dFdiv_ii, dPow_ii, dShl_ii, dNeg_i, dIadd_ii, dLt_ii, dLe_ii, dGt_ii, dGe_ii, ltE_ii, ltE_ss, srcD, isi_i, isi_s, isi_b, isi_n, isi_t, isi_nt, isi_l, isi2_i, isi2_s, isi2_b, isi2_n, isi2_t, isi2_nt, isi2_l, inon_n, inon_i, inon_s, inon_b, inon_t, inon_l, inon_r, dEq_ii, dNe_ii, dEq_ss, dNe_ss, dEq_bb, dNe_bb, dIs_n, dIsNot_n, dMax2_ii, dMin2_ii, dTuple_t, dTuple_l, dList_t, dList_l, dSl_t, dSl_l, dSl_s, newL_f, newL_t, app_r, int_b, int_i, strI_i, strX_i, strX_s,
  startD, wipeD, setAll, permL, List.filterMap, List.map_cons, List.map_nil, List.length_cons, List.length_nil, List.replicate, List.cons_append, List.nil_append, List.append_nil, List.getElem?_cons_zero, List.getElem?_cons_succ, List.set_cons_zero, List.set_cons_succ, List.map, Nat.zero_add, Nat.reduceAdd, Nat.reduceSub, Nat.sub_self, Nat.succ_sub_succ_eq_sub])
local macro_rules | `(tactic| walk_at "v") => `(tactic| simp only [ofString_inj, String.reduceEq, at_0, at_1, at_2, at_3, at_4, at_5, isN_some, isBB_bl, isB_bl, br_t, br_f, br_not, br_and, br_or, br_dec, ix_r, len_tup, len_lst, len_nt, ltE_key, gup_gup, gup_same, starD_one, cut1, cut2, kt1, kt2, kt3, kt4, kt5, kt6, isTy, String.reduceBEq, Bool.or_false, Bool.false_or, Bool.true_or, Bool.or_true, Bool.and_false, Bool.false_and, Bool.true_and, Bool.and_true, Bool.not_true, Bool.not_false, decide_true, decide_false, eq_self_iff_true, Bool.false_eq_true, Int.reduceAdd, Int.add_zero, if_true, if_false, true_and, and_true])
local macro_rules | `(tactic| walk_at "side") => `(tactic| first | with_reducible assumption | omega | exact mty_up | exact True.intro | (simp only [List.mem_cons, ofString_inj, String.reduceEq, true_or, or_true, List.length_map]; done) | with_reducible exact (rfl : (_ : Nat) = _) | exact (rfl : (_ : Option String) = _) | (refine small_line ?_; omega) | (walk_at "ll"; first | omega | (refine small_line ?_; omega) | fail) | (exact log_small (by omega)) | fail)
local macro_rules | `(tactic| walk_at "x") => `(tactic| fail)
local macro_rules | `(tactic| walk_at "go") => `(tactic| repeat' (first | dsimp only [x_var, x_c, x_op, x_un, x_b, x_and, x_or, x_not, x_chain, x_andV, x_orV, x_notV, x_if, x_nil, x_cons, x_tup, x_lst0, x_lst1, x_callB, x_call, x_callK, x_next, x_seq, x_break, x_cont, x_drop, x_ret, x_ifS, x_asg, x_name, x_names, x_sub, x_aug, x_augS, x_for, x_lc0, x_lc1, x_yes, x_noPart, x_part, x_slice, x_iter, it_t, it_l, it_n, it_s, it_r, x_rng1, x_enum, x_rev, x_m, x_m0, x_mX, x_zip, x_star_t, x_star_l, x_lenSet, x_forgo0, x_lcgo0, x_while, x_par, x_sortK, br_t, br_f, isB_bl, isI_int, isN_some, slo_some, atL_lst, ix_t, ix_l, ix_n, dAdd_ii, dAdd_ss, dAdd_tt, dAdd_ll, dMinus_ii, dMul_ii, dMod_ii, dFdiv_ii, dPow_ii, dShl_ii, dNeg_i, dIadd_ii, dLt_ii, dLe_ii, dGt_ii, dGe_ii, ltE_ii, ltE_ss, srcD, isi_i, isi_s, isi_b, isi_n, isi_t, isi_nt, isi_l, isi2_i, isi2_s, isi2_b, isi2_n, isi2_t, isi2_nt, isi2_l, inon_n, inon_i, inon_s, inon_b, inon_t, inon_l, inon_r, dEq_ii, dNe_ii, dEq_ss, dNe_ss, dEq_bb, dNe_bb, dIs_n, dIsNot_n, dMax2_ii, dMin2_ii, dTuple_t, dTuple_l, dList_t, dList_l, dSl_t, dSl_l, dSl_s, newL_f, newL_t, app_r, int_b, int_i, strI_i, strX_i, strX_s, startD, wipeD, setAll, permL, List.filterMap, List.map_cons, List.map_nil, List.length_cons, List.length_nil, List.replicate, List.cons_append, List.nil_append, List.append_nil, List.getElem?_cons_zero, List.getElem?_cons_succ, List.set_cons_zero, List.set_cons_succ, List.map, Nat.zero_add, Nat.reduceAdd, Nat.reduceSub, Nat.sub_self, Nat.succ_sub_succ_eq_sub] | simp only [ofString_inj, String.reduceEq, at_0, at_1, at_2, at_3, at_4, at_5, isN_some, isBB_bl, isB_bl, br_t, br_f, br_not, br_and, br_or, br_dec, ix_r, len_tup, len_lst, len_nt, ltE_key, gup_gup, gup_same, starD_one, cut1, cut2, kt1, kt2, kt3, kt4, kt5, kt6, isTy, String.reduceBEq, Bool.or_false, Bool.false_or, Bool.true_or, Bool.or_true, Bool.and_false, Bool.false_and, Bool.true_and, Bool.and_true, Bool.not_true, Bool.not_false, decide_true, decide_false, eq_self_iff_true, Bool.false_eq_true, Int.reduceAdd, Int.add_zero, if_true, if_false, true_and, and_true] | walk_at "x" | with_reducible refine kont_go ?_ | with_reducible refine rt_sub (by assumption) ?_ | with_reducible refine rt_lst (by assumption) ?_ | with_reducible refine rt_drop (by assumption) ?_ | with_reducible refine rt_keep (by assumption) (by assumption) ?_ | with_reducible refine rt_same ?_ | (refine fun (p : Addr) (_ : _ = none) => ?_) | refine join_gor gup_same rfl (by walk_at "side") ?_ | with_reducible refine lc_cons ?_ | with_reducible refine for_cons ?_ | refine join_go rfl (by walk_at "side") ?_ | refine And.intro (by first | with_reducible assumption | omega | exact mty_up | exact True.intro | (simp only [List.mem_cons, ofString_inj, String.reduceEq, true_or, or_true, List.length_map]; done) | with_reducible exact (rfl : (_ : Nat) = _) | exact (rfl : (_ : Option String) = _) | (refine small_line ?_; omega) | (walk_at "ll"; first | omega | (refine small_line ?_; omega) | fail) | (exact log_small (by omega)) | fail) ?_ | fail))
local macro_rules | `(tactic| walk_at "ll") => `(tactic| simp only [List.length_map, List.length_append, List.length_cons, List.length_nil, List.map_cons, List.map_nil, List.sum_cons, List.sum_nil, len_app, rng_length, ll_0, ll_1, ll_2, ll_3, ll_4, ll_5, ll_6, ll_7, ll_8, ll_9, ll_10, ll_11, ll_12, ll_13, ll_14, ll_15, ll_16, ll_17, ll_18, ll_19, ll_20, ll_21, ll_22, ll_23, ll_24, ll_25, ll_26, ll_27, ll_28, ll_29, ll_30, ll_31, ll_32, ll_33, ll_34, ll_35, ll_36, ll_37, ll_38, ll_39, ll_40, ll_41, ll_42, ll_43, ll_44, ll_45, ll_46, ll_47, ll_48, ll_49, ll_50, ll_51, ll_52, ll_53, ll_54])
/-! ### terms and meanings shown -/
theorem num_wdF2 : ∀ k : Fin 301, (numT k.val).length ≤ 4 := by decide +kernel
theorem op_len4 : ∀ o ∈ opL, o.length ≤ 4 := by decide +kernel
theorem tm_len {M : Mach} (hM : M.ok) : ∀ {x : Tm}, x.ok M → x.txt.length + 16 ≤ 12 * 2 ^ x.dep
  | .num w, h => by
    have htop := top_le hM.b1 hM.b2
    have h : (w : Int) < 2 ^ M.b.toNat := h
    have : (numT w).length ≤ 4 := num_wdF2 ⟨w, by omega⟩
    simp only [Tm.txt, Tm.dep]
    omega
  | .reg x, h => by
    obtain ⟨⟨_, h2⟩, _⟩ := nameOk_iff.mp (hM.nm.1 x h)
    rw [cds_len] at h2
    simp only [Tm.txt, Tm.dep]
    omega
  | .load t, h => by
    have ih := tm_len hM (x := t) h
    simp only [Tm.txt, Tm.dep, len_app, show (Str.ofString "[").length = 1 by decide +kernel, show (Str.ofString "]").length = 1 by decide +kernel, Nat.pow_succ]
    omega
  | .op o t u, h => by
    obtain ⟨h1, h2, h3⟩ := h
    have ih1 := tm_len hM (x := t) h2
    have ih2 := tm_len hM (x := u) h3
    have ho := op_len4 o h1
    have e1 : 2 ^ t.dep ≤ 2 ^ max t.dep u.dep := Nat.pow_le_pow_right (by omega) (by omega)
    have e2 : 2 ^ u.dep ≤ 2 ^ max t.dep u.dep := Nat.pow_le_pow_right (by omega) (by omega)
    simp only [Tm.txt, Tm.dep, len_app, show (Str.ofString "(").length = 1 by decide +kernel, show (Str.ofString ")").length = 1 by decide +kernel, show (Str.ofString " ").length = 1 by decide +kernel, Nat.pow_succ]
    omega
theorem tm_len7 {M : Mach} (hM : M.ok) {x : Tm} (h : x.ok M) (hd : x.dep ≤ 7) : x.txt.length ≤ 1520 := by
  have := tm_len hM h
  have h2 : 2 ^ x.dep ≤ 2 ^ 7 := Nat.pow_le_pow_right (by omega) hd
  omega
theorem rn_in {z : Str} {b : Bool} {G : Gp} {R : DK} (hz : pyD (.str z) = true) (hb : decide (z ∈ [Str.ofString "reg", Str.ofString "num"]) = b) (k : R (.bl b) G) : dInE id (.str z) (.tup [.str (Str.ofString "reg"), .str (Str.ofString "num")]) G R :=
  inE_tupS (zs := [Str.ofString "reg", Str.ofString "num"]) hz (by decide +kernel) (by rw [hb]; exact k)
theorem op_far : ∀ o ∈ opL, decide (o ∈ [Str.ofString "reg", Str.ofString "num"]) = false ∧ (o = Str.ofString "load") = False := by
  have : ∀ o ∈ opL, decide (o ∈ [Str.ofString "reg", Str.ofString "num"]) = false ∧ decide (o = Str.ofString "load") = false := by decide +kernel
  exact fun o ho => ⟨(this o ho).1, eq_false (of_decide_eq_false (this o ho).2)⟩
theorem line_okT {n : Nat} (h : n ≤ 16000000) : n ≤ sizeLine := by
  have : (16000000 : Nat) ≤ sizeLine := by decide
  omega
theorem one_signs : (Str.ofString "[").length = 1 ∧ (Str.ofString "]").length = 1 ∧ (Str.ofString "(").length = 1 ∧ (Str.ofString ")").length = 1 ∧ (Str.ofString " ").length = 1 := by decide +kernel
def sp_show_term (n : Nat) : DSp := fun ds G R => ∃ (M : Mach) (x : Tm), ds = [x.d] ∧ M.ok ∧ x.ok M ∧ x.dep ≤ n + 1 ∧ n ≤ 7 ∧ R (.str x.txt) G
def sp__law_shown (n : Nat) : DSp := sp_show_term n
local macro_rules | `(tactic| walk_at "x") => `(tactic| fail)
theorem ok0_show_term {P : Program} {w : World} {K : PySem.W.Frag} {mg : Str → Option Value} {base : Heap} {a : Ad} (T : Tx w K mg a) {n j : Nat} {sp' : DSp} (ih : FnD P w K mg base j a.f_show_term a.fd_show_term ["term"] sp') (hj : j ≤ n + 0) (hs : ∀ m, n = m + 1 → ∀ ds G R, sp_show_term m ds G R → sp' ds G R) : FnD P w K mg base (n + 1) a.f_show_term a.fd_show_term ["term"] (sp_show_term n) := by
  refine fun_okD T.F_show_term sc_show_term (fun ds G R h => ?_) (fun cdv A outer s H hr => ⟨_, (qss_cons (qs_asg (qv 0) (qg_star (n := 2) (i := 1) (is := [1, 2]) rfl (pgs_cons (pg_name (i := 1) sc_show_term.nd rfl (.inl rfl)) (pgs_star (pg_name (i := 2) sc_show_term.nd rfl (.inl rfl)) pgs_nil)) (by decide) rfl))
      (qss_cons (qs_if (qt_cmp (od_inE (room100 hr)) (qv 1) (qe_tup (qa_cons qe_str (qa_cons qe_str qa_nil))) rfl)
      (qss_one (qs_ret (qe_callTy cd_strX rfl T.n_str (by decide +kernel) (qa_cons (qe_ix xd_ix (qv 2) qe_int (fun _ _ => rfl)) qa_nil))))
      qss_nil)
      (qss_cons (qs_if (qt_cmp (od_eq hr.units) (qv 1) qe_str (nomark _))
      (qss_one (qs_ret (qe_op (od_add false) (qe_op (od_add false) qe_str (qe_call ih (hr.mono (by omega)) rfl T.g_show_term T.F_show_term.kp T.b_show_term (qa_cons (qe_ix xd_ix (qv 2) qe_int (fun _ _ => rfl)) qa_nil))) qe_str)))
      qss_nil)
      (qss_one (qs_ret (qe_op (od_add false) (qe_op (od_add false) (qe_op (od_add false) (qe_op (od_add false) (qe_op (od_add false) (qe_op (od_add false) qe_str (qe_call ih (hr.mono (by omega)) rfl T.g_show_term T.F_show_term.kp T.b_show_term (qa_cons (qe_ix xd_ix (qv 2) qe_int (fun _ _ => rfl)) qa_nil))) qe_str) (qv 1)) qe_str) (qe_call ih (hr.mono (by omega)) rfl T.g_show_term T.F_show_term.kp T.b_show_term (qa_cons (qe_ix xd_ix (qv 2) qe_int (fun _ _ => rfl)) qa_nil))) qe_str)))))), fun ds G R h => ?_⟩)
  · obtain ⟨M, x, rfl, _⟩ := h; rfl
  · obtain ⟨M, x, rfl, hM, hx, hd, hn7, h⟩ := h
    cases x with
    | num w =>
      have htop := top_le hM.b1 hM.b2
      have hw : (w : Int) < 2 ^ M.b.toNat := hx
      unfold Tm.d
      walk_at "go"
      refine rn_in (b := true) (by decide +kernel) (by decide +kernel) ?_
      walk_at "go"
      exact h
    | reg z =>
      unfold Tm.d
      walk_at "go"
      refine rn_in (b := true) (by decide +kernel) (by decide +kernel) ?_
      walk_at "go"
      exact h
    | load t =>
      simp only [Tm.dep] at hd
      have ht := t.dep_pos
      obtain ⟨n', rfl⟩ : ∃ m, n = m + 1 := ⟨n - 1, by omega⟩
      have hl := tm_len7 hM (x := t) hx (by omega)
      unfold Tm.d
      walk_at "go"
      refine rn_in (b := false) (by decide +kernel) (by decide +kernel) ?_
      walk_at "go"
      refine hs n' rfl _ _ _ ⟨M, t, rfl, hM, hx, by omega, by omega, ?_⟩
      walk_at "go"
      repeat (refine And.intro (line_okT (by simp only [len_app, one_signs]; omega)) ?_)
      exact rt_same h
    | op o t u =>
      simp only [Tm.dep] at hd
      have ht := t.dep_pos
      obtain ⟨n', rfl⟩ : ∃ m, n = m + 1 := ⟨n - 1, by omega⟩
      obtain ⟨ho, hxt, hxu⟩ := hx
      have hl1 := tm_len7 hM (x := t) hxt (by omega)
      have hl2 := tm_len7 hM (x := u) hxu (by omega)
      have hl3 := op_len4 o ho
      obtain ⟨hf1, hf2⟩ := op_far o ho
      unfold Tm.d
      walk_at "go"
      refine rn_in (b := false) (opL_py o ho) hf1 ?_
      walk_at "go"
      rw [if_neg (by rw [hf2]; exact id)]
      walk_at "go"
      refine hs n' rfl _ _ _ ⟨M, t, rfl, hM, hxt, by omega, by omega, ?_⟩
      walk_at "go"
      repeat (refine And.intro (line_okT (by simp only [len_app, one_signs]; omega)) ?_)
      refine hs n' rfl _ _ _ ⟨M, u, rfl, hM, hxu, by omega, by omega, ?_⟩
      walk_at "go"
      repeat (refine And.intro (line_okT (by simp only [len_app, one_signs]; omega)) ?_)
      exact rt_same h
theorem ok_show_term_n {P : Program} {w : World} {K : PySem.W.Frag} {mg : Str → Option Value} {base : Heap} {a : Ad} (T : Tx w K mg a) : ∀ n : Nat, FnD P w K mg base (n + 1) a.f_show_term a.fd_show_term ["term"] (sp_show_term n)
  | 0 => ok0_show_term T (j := 0) fnd_never (by omega) (fun m e => by omega)
  | n + 1 => ok0_show_term T (ok_show_term_n T n) (by omega) (fun m e ds G R h => by
    have : n = m := by omega
    subst this
    exact h)
theorem ok_show_term {P : Program} {w : World} {K : PySem.W.Frag} {mg : Str → Option Value} {base : Heap} {a : Ad} (T : Tx w K mg a) : FnD P w K mg base 8 a.f_show_term a.fd_show_term ["term"] (sp_show_term 7) := ok_show_term_n T 7
theorem go_show_term {M : Mach} {x : Tm} {G : Gp} {R : DK} (hM : M.ok) (hx : x.ok M) (hd : x.dep ≤ 7) (k : R (.str x.txt) G) : sp_show_term 7 [x.d] G R := ⟨M, x, rfl, hM, hx, by omega, by omega, k⟩
end K19


set_option Elab.async false
set_option linter.all false
set_option maxRecDepth 100000
set_option maxHeartbeats 4000000
set_option autoImplicit false
namespace K19
open PySem PySem.Spec PyProof.Rows L2 DL
local macro_rules | `(tactic| walk_at "d") => `(tactic| dsimp only [dSeq, dNext, dIfS, dRet, dRetN, dAsg, dName, dVar, dC, dOp, dUn, dChain, dB, dAnd, dOr, dNot, dAndV, dOrV, dNotV, dIf, dNil, dCons, dTup, dLst, newL, dCallB, dCall, dCallK, dDrop, dAug, dAugS, dSub, dM, dM0, dSlice, dNoPart, dPart, dLc, dYes, dFor, dIter, dRng1, dEnum, dZipM, srcD, dStar, dInK, dIxK, dLenSet, dRev,
  startD, wipeD, setAll, dNames, List.map_cons, List.map_nil, List.length_cons, List.length_nil, List.replicate, List.cons_append, List.nil_append, List.append_nil, List.getElem?_cons_zero, List.getElem?_cons_succ, List.set_cons_zero, List.set_cons_succ, List.map, Nat.zero_add, Nat.reduceAdd, Nat.reduceSub, Nat.sub_self, Nat.succ_sub_succ_eq_sub])
local macro_rules | `(tactic| walk_at "o") => `(tactic| simp only [dAdd_ii, dAdd_ss, dAdd_tt, dAdd_ll, dMinus_ii, dMul_ii, dMod_ii, dFdiv_ii, dPow_ii, dShl_ii, dNeg_i, dIadd_ii, dLt_ii, dLe_ii, dGt_ii, dGe_ii, dEq_ii, dNe_ii, dEq_ss, dNe_ss, dEq_bb, dNe_bb, dIs_n, dIsNot_n, dMax2_ii, dMin2_ii, dTuple_t, dTuple_l, dList_t, dList_l, dIx_t, dIx_l, dIx_s, dSl_t, dSl_l, dSl_s, newL_f, len_tup, len_lst])
local macro_rules | `(tactic| walk_at "w") => `(tactic| dsimp only [x_var, x_c, x_op, x_un, x_b, x_and, x_or, x_not, x_chain, x_andV, x_orV, x_notV, x_if, x_nil, x_cons, x_tup, x_lst0, x_lst1, x_callB, x_call, x_callK, x_next, x_seq, x_break, x_cont, x_drop, x_ret, x_ifS, x_asg, x_name, x_names, x_sub, x_aug, x_augS, x_for, x_lc0, x_lc1, x_yes, x_noPart, x_part, x_slice, x_iter, it_t, it_l, it_n, it_s, it_r, x_rng1, x_enum, x_rev, x_m, x_m0, x_mX, x_zip, x_star_t, x_star_l, x_lenSet, x_forgo0, x_lcgo0, x_while, x_par, x_sortK,
  br_t, br_f, isB_bl, isI_int, isN_some, slo_some, atL_lst, ix_t, ix_l, ix_n,
  dAdd_ii, dAdd_ss, dAdd_tt, dAdd_ll, dMinus_ii, dMul_ii, dMod_ii, dFdiv_ii, dPow_ii, dShl_ii, dNeg_i, dIadd_ii, dLt_ii, dLe_ii, dGt_ii, dGe_ii, ltE_ii, ltE_ss, srcD, isi_i, isi_s, isi_b, isi_n, isi_t, isi_nt, isi_l, isi2_i, isi2_s, isi2_b, isi2_n, isi2_t, isi2_nt, isi2_l, inon_n, inon_i, inon_s, inon_b, inon_t, inon_l, inon_r, dEq_ii, dNe_ii, dEq_ss, dNe_ss, dEq_bb, dNe_bb, dIs_n, dIsNot_n, dMax2_ii, dMin2_ii, dTuple_t, dTuple_l, dList_t, dList_l, dSl_t, dSl_l, dSl_s, newL_f, newL_t, app_r, int_b, int_i, strI_i, strX_i, strX_s,
  startD, wipeD, setAll, permL, List.filterMap, List.map_cons, List.map_nil, List.length_cons, List.length_nil, List.replicate, List.cons_append, List.nil_append, List.append_nil, List.getElem?_cons_zero, List.getElem?_cons_succ, List.set_cons_zero, List.set_cons_succ, List.map, Nat.zero_add, Nat.reduceAdd, Nat.reduceSub, Nat.sub_self, Nat.succ_sub_succ_eq_sub])
local macro_rules | `(tactic| walk_at "v") => `(tactic| simp only [ofString_inj, String.reduceEq, at_0, at_1, at_2, at_3, at_4, at_5, isN_some, isBB_bl, isB_bl, br_t, br_f, br_not, br_and, br_or, br_dec, ix_r, len_tup, len_lst, len_nt, ltE_key, gup_gup, gup_same, starD_one, cut1, cut2, kt1, kt2, kt3, kt4, kt5, kt6, isTy, String.reduceBEq, Bool.or_false, Bool.false_or, Bool.true_or, Bool.or_true, Bool.and_false, Bool.false_and, Bool.true_and, Bool.and_true, Bool.not_true, Bool.not_false, decide_true, decide_false, eq_self_iff_true, Bool.false_eq_true, Int.reduceAdd, Int.add_zero, if_true, if_false, true_and, and_true])
local macro_rules | `(tactic| walk_at "side") => `(tactic| first | with_reducible assumption | omega | exact mty_up | exact True.intro | (simp only [List.mem_cons, ofString_inj, String.reduceEq, true_or, or_true, List.length_map]; done) | with_reducible exact (rfl : (_ : Nat) = _) | exact (rfl : (_ : Option String) = _) | (refine small_line ?_; omega) | (walk_at "ll"; first | omega | (refine small_line ?_; omega) | fail) | (exact log_small (by omega)) | fail)
local macro_rules | `(tactic| walk_at "x") => `(tactic| fail)
local macro_rules | `(tactic| walk_at "go") => `(tactic| repeat' (first | dsimp only [x_var, x_c, x_op, x_un, x_b, x_and, x_or, x_not, x_chain, x_andV, x_orV, x_notV, x_if, x_nil, x_cons, x_tup, x_lst0, x_lst1, x_callB, x_call, x_callK, x_next, x_seq, x_break, x_cont, x_drop, x_ret, x_ifS, x_asg, x_name, x_names, x_sub, x_aug, x_augS, x_for, x_lc0, x_lc1, x_yes, x_noPart, x_part, x_slice, x_iter, it_t, it_l, it_n, it_s, it_r, x_rng1, x_enum, x_rev, x_m, x_m0, x_mX, x_zip, x_star_t, x_star_l, x_lenSet, x_forgo0, x_lcgo0, x_while, x_par, x_sortK, br_t, br_f, isB_bl, isI_int, isN_some, slo_some, atL_lst, ix_t, ix_l, ix_n, dAdd_ii, dAdd_ss, dAdd_tt, dAdd_ll, dMinus_ii, dMul_ii, dMod_ii, dFdiv_ii, dPow_ii, dShl_ii, dNeg_i, dIadd_ii, dLt_ii, dLe_ii, dGt_ii, dGe_ii, ltE_ii, ltE_ss, srcD, isi_i, isi_s, isi_b, isi_n, isi_t, isi_nt, isi_l, isi2_i, isi2_s, isi2_b, isi2_n, isi2_t, isi2_nt, isi2_l, inon_n, inon_i, inon_s, inon_b, inon_t, inon_l, inon_r, dEq_ii, dNe_ii, dEq_ss, dNe_ss, dEq_bb, dNe_bb, dIs_n, dIsNot_n, dMax2_ii, dMin2_ii, dTuple_t, dTuple_l, dList_t, dList_l, dSl_t, dSl_l, dSl_s, newL_f, newL_t, app_r, int_b, int_i, strI_i, strX_i, strX_s, startD, wipeD, setAll, permL, List.filterMap, List.map_cons, List.map_nil, List.length_cons, List.length_nil, List.replicate, List.cons_append, List.nil_append, List.append_nil, List.getElem?_cons_zero, List.getElem?_cons_succ, List.set_cons_zero, List.set_cons_succ, List.map, Nat.zero_add, Nat.reduceAdd, Nat.reduceSub, Nat.sub_self, Nat.succ_sub_succ_eq_sub] | simp only [ofString_inj, String.reduceEq, at_0, at_1, at_2, at_3, at_4, at_5, isN_some, isBB_bl, isB_bl, br_t, br_f, br_not, br_and, br_or, br_dec, ix_r, len_tup, len_lst, len_nt, ltE_key, gup_gup, gup_same, starD_one, cut1, cut2, kt1, kt2, kt3, kt4, kt5, kt6, isTy, String.reduceBEq, Bool.or_false, Bool.false_or, Bool.true_or, Bool.or_true, Bool.and_false, Bool.false_and, Bool.true_and, Bool.and_true, Bool.not_true, Bool.not_false, decide_true, decide_false, eq_self_iff_true, Bool.false_eq_true, Int.reduceAdd, Int.add_zero, if_true, if_false, true_and, and_true] | walk_at "x" | with_reducible refine kont_go ?_ | with_reducible refine rt_sub (by assumption) ?_ | with_reducible refine rt_lst (by assumption) ?_ | with_reducible refine rt_drop (by assumption) ?_ | with_reducible refine rt_keep (by assumption) (by assumption) ?_ | with_reducible refine rt_same ?_ | (refine fun (p : Addr) (_ : _ = none) => ?_) | refine join_gor gup_same rfl (by walk_at "side") ?_ | with_reducible refine lc_cons ?_ | with_reducible refine for_cons ?_ | refine join_go rfl (by walk_at "side") ?_ | refine And.intro (by first | with_reducible assumption | omega | exact mty_up | exact True.intro | (simp only [List.mem_cons, ofString_inj, String.reduceEq, true_or, or_true, List.length_map]; done) | with_reducible exact (rfl : (_ : Nat) = _) | exact (rfl : (_ : Option String) = _) | (refine small_line ?_; omega) | (walk_at "ll"; first | omega | (refine small_line ?_; omega) | fail) | (exact log_small (by omega)) | fail) ?_ | fail))
local macro_rules | `(tactic| walk_at "ll") => `(tactic| simp only [List.length_map, List.length_append, List.length_cons, List.length_nil, List.map_cons, List.map_nil, List.sum_cons, List.sum_nil, len_app, rng_length, ll_0, ll_1, ll_2, ll_3, ll_4, ll_5, ll_6, ll_7, ll_8, ll_9, ll_10, ll_11, ll_12, ll_13, ll_14, ll_15, ll_16, ll_17, ll_18, ll_19, ll_20, ll_21, ll_22, ll_23, ll_24, ll_25, ll_26, ll_27, ll_28, ll_29, ll_30, ll_31, ll_32, ll_33, ll_34, ll_35, ll_36, ll_37, ll_38, ll_39, ll_40, ll_41, ll_42, ll_43, ll_44, ll_45, ll_46, ll_47, ll_48, ll_49, ll_50, ll_51, ll_52, ll_53, ll_54])
theorem rn_inL {z : Str} {b : Bool} {G : Gp} {R : DK} (hz : pyD (.str z) = true) (hb : decide (z ∈ [Str.ofString "reg", Str.ofString "num"]) = b) (k : R (.bl b) G) : dInE id (.str z) (.lst [.str (Str.ofString "reg"), .str (Str.ofString "num")]) G R :=
  inE_lstS (zs := [Str.ofString "reg", Str.ofString "num"]) hz (by decide +kernel) (by rw [hb]; exact k)
local macro_rules | `(tactic| walk_at "x") => `(tactic| fail)
theorem ok0__law_shown {P : Program} {w : World} {K : PySem.W.Frag} {mg : Str → Option Value} {base : Heap} {a : Ad} (T : Tx w K mg a) {n j : Nat} {sp' : DSp} (ih : FnD P w K mg base j a.f__law_shown a.fd__law_shown ["term"] sp') (hj : j ≤ n + 0) (hs : ∀ m, n = m + 1 → ∀ ds G R, sp__law_shown m ds G R → sp' ds G R) : FnD P w K mg base (n + 1) a.f__law_shown a.fd__law_shown ["term"] (sp__law_shown n) := by
  refine fun_okD T.F__law_shown sc__law_shown (fun ds G R h => ?_) (fun cdv A outer s H hr => ⟨_, (qss_cons (qs_if (qt_cmp (od_inE (room100 hr)) (qe_ix xd_ix (qv 0) qe_int (fun _ _ => rfl)) (qe_lst false (qa_cons qe_str (qa_cons qe_str qa_nil))) rfl)
      (qss_one (qs_ret (qe_callTy cd_strX rfl T.n_str (by decide +kernel) (qa_cons (qe_ix xd_ix (qv 0) qe_int (fun _ _ => rfl)) qa_nil))))
      qss_nil)
      (qss_cons (qs_if (qt_cmp (od_eq hr.units) (qe_ix xd_ix (qv 0) qe_int (fun _ _ => rfl)) qe_str (nomark _))
      (qss_one (qs_ret (qe_op (od_add false) (qe_op (od_add false) qe_str (qe_call ih (hr.mono (by omega)) rfl T.g__law_shown T.F__law_shown.kp T.b__law_shown (qa_cons (qe_ix xd_ix (qv 0) qe_int (fun _ _ => rfl)) qa_nil))) qe_str)))
      qss_nil)
      (qss_one (qs_ret (qe_op (od_add false) (qe_op (od_add false) (qe_op (od_add false) (qe_op (od_add false) (qe_op (od_add false) (qe_op (od_add false) qe_str (qe_call ih (hr.mono (by omega)) rfl T.g__law_shown T.F__law_shown.kp T.b__law_shown (qa_cons (qe_ix xd_ix (qv 0) qe_int (fun _ _ => rfl)) qa_nil))) qe_str) (qe_ix xd_ix (qv 0) qe_int (fun _ _ => rfl))) qe_str) (qe_call ih (hr.mono (by omega)) rfl T.g__law_shown T.F__law_shown.kp T.b__law_shown (qa_cons (qe_ix xd_ix (qv 0) qe_int (fun _ _ => rfl)) qa_nil))) qe_str))))), fun ds G R h => ?_⟩)
  · obtain ⟨M, x, rfl, _⟩ := h; rfl
  · obtain ⟨M, x, rfl, hM, hx, hd, hn7, h⟩ := h
    cases x with
    | num w =>
      have htop := top_le hM.b1 hM.b2
      have hw : (w : Int) < 2 ^ M.b.toNat := hx
      unfold Tm.d
      walk_at "go"
      refine rn_inL (b := true) (by decide +kernel) (by decide +kernel) ?_
      walk_at "go"
      exact h
    | reg z =>
      unfold Tm.d
      walk_at "go"
      refine rn_inL (b := true) (by decide +kernel) (by decide +kernel) ?_
      walk_at "go"
      exact h
    | load t =>
      simp only [Tm.dep] at hd
      have ht := t.dep_pos
      obtain ⟨n', rfl⟩ : ∃ m, n = m + 1 := ⟨n - 1, by omega⟩
      have hl := tm_len7 hM (x := t) hx (by omega)
      unfold Tm.d
      walk_at "go"
      refine rn_inL (b := false) (by decide +kernel) (by decide +kernel) ?_
      walk_at "go"
      refine hs n' rfl _ _ _ ⟨M, t, rfl, hM, hx, by omega, by omega, ?_⟩
      walk_at "go"
      repeat (refine And.intro (line_okT (by simp only [len_app, one_signs]; omega)) ?_)
      exact rt_same h
    | op o t u =>
      simp only [Tm.dep] at hd
      have ht := t.dep_pos
      obtain ⟨n', rfl⟩ : ∃ m, n = m + 1 := ⟨n - 1, by omega⟩
      obtain ⟨ho, hxt, hxu⟩ := hx
      have hl1 := tm_len7 hM (x := t) hxt (by omega)
      have hl2 := tm_len7 hM (x := u) hxu (by omega)
      have hl3 := op_len4 o ho
      obtain ⟨hf1, hf2⟩ := op_far o ho
      unfold Tm.d
      walk_at "go"
      refine rn_inL (b := false) (opL_py o ho) hf1 ?_
      walk_at "go"
      rw [if_neg (by rw [hf2]; exact id)]
      walk_at "go"
      refine hs n' rfl _ _ _ ⟨M, t, rfl, hM, hxt, by omega, by omega, ?_⟩
      walk_at "go"
      repeat (refine And.intro (line_okT (by simp only [len_app, one_signs]; omega)) ?_)
      refine hs n' rfl _ _ _ ⟨M, u, rfl, hM, hxu, by omega, by omega, ?_⟩
      walk_at "go"
      repeat (refine And.intro (line_okT (by simp only [len_app, one_signs]; omega)) ?_)
      exact rt_same h
theorem ok__law_shown_n {P : Program} {w : World} {K : PySem.W.Frag} {mg : Str → Option Value} {base : Heap} {a : Ad} (T : Tx w K mg a) : ∀ n : Nat, FnD P w K mg base (n + 1) a.f__law_shown a.fd__law_shown ["term"] (sp__law_shown n)
  | 0 => ok0__law_shown T (j := 0) fnd_never (by omega) (fun m e => by omega)
  | n + 1 => ok0__law_shown T (ok__law_shown_n T n) (by omega) (fun m e ds G R h => by
    have : n = m := by omega
    subst this
    exact h)
theorem ok__law_shown {P : Program} {w : World} {K : PySem.W.Frag} {mg : Str → Option Value} {base : Heap} {a : Ad} (T : Tx w K mg a) : FnD P w K mg base 8 a.f__law_shown a.fd__law_shown ["term"] (sp__law_shown 7) := ok__law_shown_n T 7
theorem go_lshown {M : Mach} {x : Tm} {G : Gp} {R : DK} (hM : M.ok) (hx : x.ok M) (hd : x.dep ≤ 7) (k : R (.str x.txt) G) : sp__law_shown 7 [x.d] G R := ⟨M, x, rfl, hM, hx, by omega, by omega, k⟩
end K19


set_option Elab.async false
set_option linter.all false
set_option maxRecDepth 100000
set_option maxHeartbeats 4000000
set_option autoImplicit false
namespace K19
open PySem PySem.Spec PyProof.Rows L2 DL
local macro_rules | `(tactic| walk_at "d") => `(tactic| dsimp only [dSeq, dNext, dIfS, dRet, dRetN, dAsg, dName, dVar, dC, dOp, dUn, dChain, dB, dAnd, dOr, dNot, dAndV, dOrV, dNotV, dIf, dNil, dCons, dTup, dLst, newL, dCallB, dCall, dCallK, dDrop, dAug, dAugS, dSub, dM, dM0, dSlice, dNoPart, dPart, dLc, dYes, dFor, dIter, dRng1, dEnum, dZipM, srcD, dStar, dInK, dIxK, dLenSet, dRev,
  startD, wipeD, setAll, dNames, List.map_cons, List.map_nil, List.length_cons, List.length_nil, List.replicate, List.cons_append, List.nil_append, List.append_nil, List.getElem?_cons_zero, List.getElem?_cons_succ, List.set_cons_zero, List.set_cons_succ, List.map, Nat.zero_add, Nat.reduceAdd, Nat.reduceSub, Nat.sub_self, Nat.succ_sub_succ_eq_sub])
local macro_rules | `(tactic| walk_at "o") => `(tactic| simp only [dAdd_ii, dAdd_ss, dAdd_tt, dAdd_ll, dMinus_ii, dMul_ii, dMod_ii, dFdiv_ii, dPow_ii, dShl_ii, dNeg_i, dIadd_ii, dLt_ii, dLe_ii, dGt_ii, dGe_ii, dEq_ii, dNe_ii, dEq_ss, dNe_ss, dEq_bb, dNe_bb, dIs_n, dIsNot_n, dMax2_ii, dMin2_ii, dTuple_t, dTuple_l, dList_t, dList_l, dIx_t, dIx_l, dIx_s, dSl_t, dSl_l, dSl_s, newL_f, len_tup, len_lst])
local macro_rules | `(tactic| walk_at "w") => `(tactic| dsimp only [x_var, x_c, x_op, x_un, x_b, x_and, x_or, x_not, x_chain, x_andV, x_orV, x_notV, x_if, x_nil, x_cons, x_tup, x_lst0, x_lst1, x_callB, x_call, x_callK, x_next, x_seq, x_break, x_cont, x_drop, x_ret, x_ifS, x_asg, x_name, x_names, x_sub, x_aug, x_augS, x_for, x_lc0, x_lc1, x_yes, x_noPart, x_part, x_slice, x_iter, it_t, it_l, it_n, it_s, it_r, x_rng1, x_enum, x_rev, x_m, x_m0, x_mX, x_zip, x_star_t, x_star_l, x_lenSet, x_forgo0, x_lcgo0, x_while, x_par, x_sortK,
  br_t, br_f, isB_bl, isI_int, isN_some, slo_some, atL_lst, ix_t, ix_l, ix_n,
  dAdd_ii, dAdd_ss, dAdd_tt, dAdd_ll, dMinus_ii, dMul_ii, dMod_ii, dFdiv_ii, dPow_ii, dShl_ii, dNeg_i, dIadd_ii, dLt_ii, dLe_ii, dGt_ii, dGe_ii, ltE_ii, ltE_ss, srcD, isi_i, isi_s, isi_b, isi_n, isi_t, isi_nt, isi_l, isi2_i, isi2_s, isi2_b, isi2_n, isi2_t, isi2_nt, isi2_l, inon_n, inon_i, inon_s, inon_b, inon_t, inon_l, inon_r, dEq_ii, dNe_ii, dEq_ss, dNe_ss, dEq_bb, dNe_bb, dIs_n, dIsNot_n, dMax2_ii, dMin2_ii, dTuple_t, dTuple_l, dList_t, dList_l, dSl_t, dSl_l, dSl_s, newL_f, newL_t, app_r, int_b, int_i, strI_i, strX_i, strX_s,
  startD, wipeD, setAll, permL, List.filterMap, List.map_cons, List.map_nil, List.length_cons, List.length_nil, List.replicate, List.cons_append, List.nil_append, List.append_nil, List.getElem?_cons_zero, List.getElem?_cons_succ, List.set_cons_zero, List.set_cons_succ, List.map, Nat.zero_add, Nat.reduceAdd, Nat.reduceSub, Nat.sub_self, Nat.succ_sub_succ_eq_sub])
local macro_rules | `(tactic| walk_at "v") => `(tactic| simp only [ofString_inj, String.reduceEq, at_0, at_1, at_2, at_3, at_4, at_5, isN_some, isBB_bl, isB_bl, br_t, br_f, br_not, br_and, br_or, br_dec, ix_r, len_tup, len_lst, len_nt, ltE_key, gup_gup, gup_same, starD_one, cut1, cut2, kt1, kt2, kt3, kt4, kt5, kt6, isTy, String.reduceBEq, Bool.or_false, Bool.false_or, Bool.true_or, Bool.or_true, Bool.and_false, Bool.false_and, Bool.true_and, Bool.and_true, Bool.not_true, Bool.not_false, decide_true, decide_false, eq_self_iff_true, Bool.false_eq_true, Int.reduceAdd, Int.add_zero, if_true, if_false, true_and, and_true])
local macro_rules | `(tactic| walk_at "side") => `(tactic| first | with_reducible assumption | omega | exact mty_up | exact True.intro | (simp only [List.mem_cons, ofString_inj, String.reduceEq, true_or, or_true, List.length_map]; done) | with_reducible exact (rfl : (_ : Nat) = _) | exact (rfl : (_ : Option String) = _) | (refine small_line ?_; omega) | (walk_at "ll"; first | omega | (refine small_line ?_; omega) | fail) | (exact log_small (by omega)) | fail)
local macro_rules | `(tactic| walk_at "x") => `(tactic| fail)
local macro_rules | `(tactic| walk_at "go") => `(tactic| repeat' (first | dsimp only [x_var, x_c, x_op, x_un, x_b, x_and, x_or, x_not, x_chain, x_andV, x_orV, x_notV, x_if, x_nil, x_cons, x_tup, x_lst0, x_lst1, x_callB, x_call, x_callK, x_next, x_seq, x_break, x_cont, x_drop, x_ret, x_ifS, x_asg, x_name, x_names, x_sub, x_aug, x_augS, x_for, x_lc0, x_lc1, x_yes, x_noPart, x_part, x_slice, x_iter, it_t, it_l, it_n, it_s, it_r, x_rng1, x_enum, x_rev, x_m, x_m0, x_mX, x_zip, x_star_t, x_star_l, x_lenSet, x_forgo0, x_lcgo0, x_while, x_par, x_sortK, br_t, br_f, isB_bl, isI_int, isN_some, slo_some, atL_lst, ix_t, ix_l, ix_n, dAdd_ii, dAdd_ss, dAdd_tt, dAdd_ll, dMinus_ii, dMul_ii, dMod_ii, dFdiv_ii, dPow_ii, dShl_ii, dNeg_i, dIadd_ii, dLt_ii, dLe_ii, dGt_ii, dGe_ii, ltE_ii, ltE_ss, srcD, isi_i, isi_s, isi_b, isi_n, isi_t, isi_nt, isi_l, isi2_i, isi2_s, isi2_b, isi2_n, isi2_t, isi2_nt, isi2_l, inon_n, inon_i, inon_s, inon_b, inon_t, inon_l, inon_r, dEq_ii, dNe_ii, dEq_ss, dNe_ss, dEq_bb, dNe_bb, dIs_n, dIsNot_n, dMax2_ii, dMin2_ii, dTuple_t, dTuple_l, dList_t, dList_l, dSl_t, dSl_l, dSl_s, newL_f, newL_t, app_r, int_b, int_i, strI_i, strX_i, strX_s, startD, wipeD, setAll, permL, List.filterMap, List.map_cons, List.map_nil, List.length_cons, List.length_nil, List.replicate, List.cons_append, List.nil_append, List.append_nil, List.getElem?_cons_zero, List.getElem?_cons_succ, List.set_cons_zero, List.set_cons_succ, List.map, Nat.zero_add, Nat.reduceAdd, Nat.reduceSub, Nat.sub_self, Nat.succ_sub_succ_eq_sub] | simp only [ofString_inj, String.reduceEq, at_0, at_1, at_2, at_3, at_4, at_5, isN_some, isBB_bl, isB_bl, br_t, br_f, br_not, br_and, br_or, br_dec, ix_r, len_tup, len_lst, len_nt, ltE_key, gup_gup, gup_same, starD_one, cut1, cut2, kt1, kt2, kt3, kt4, kt5, kt6, isTy, String.reduceBEq, Bool.or_false, Bool.false_or, Bool.true_or, Bool.or_true, Bool.and_false, Bool.false_and, Bool.true_and, Bool.and_true, Bool.not_true, Bool.not_false, decide_true, decide_false, eq_self_iff_true, Bool.false_eq_true, Int.reduceAdd, Int.add_zero, if_true, if_false, true_and, and_true] | walk_at "x" | with_reducible refine kont_go ?_ | with_reducible refine rt_sub (by assumption) ?_ | with_reducible refine rt_lst (by assumption) ?_ | with_reducible refine rt_drop (by assumption) ?_ | with_reducible refine rt_keep (by assumption) (by assumption) ?_ | with_reducible refine rt_same ?_ | (refine fun (p : Addr) (_ : _ = none) => ?_) | refine join_gor gup_same rfl (by walk_at "side") ?_ | with_reducible refine lc_cons ?_ | with_reducible refine for_cons ?_ | refine join_go rfl (by walk_at "side") ?_ | refine And.intro (by first | with_reducible assumption | omega | exact mty_up | exact True.intro | (simp only [List.mem_cons, ofString_inj, String.reduceEq, true_or, or_true, List.length_map]; done) | with_reducible exact (rfl : (_ : Nat) = _) | exact (rfl : (_ : Option String) = _) | (refine small_line ?_; omega) | (walk_at "ll"; first | omega | (refine small_line ?_; omega) | fail) | (exact log_small (by omega)) | fail) ?_ | fail))
local macro_rules | `(tactic| walk_at "ll") => `(tactic| simp only [List.length_map, List.length_append, List.length_cons, List.length_nil, List.map_cons, List.map_nil, List.sum_cons, List.sum_nil, len_app, rng_length, ll_0, ll_1, ll_2, ll_3, ll_4, ll_5, ll_6, ll_7, ll_8, ll_9, ll_10, ll_11, ll_12, ll_13, ll_14, ll_15, ll_16, ll_17, ll_18, ll_19, ll_20, ll_21, ll_22, ll_23, ll_24, ll_25, ll_26, ll_27, ll_28, ll_29, ll_30, ll_31, ll_32, ll_33, ll_34, ll_35, ll_36, ll_37, ll_38, ll_39, ll_40, ll_41, ll_42, ll_43, ll_44, ll_45, ll_46, ll_47, ll_48, ll_49, ll_50, ll_51, ll_52, ll_53, ll_54])
/-! ### words read from left to right -/
abbrev rdF (ws : List Str) (k : Nat) : List (Str × D) := [("words", .lst (ws.map .str)), ("at", .int (k : Nat))]
theorem rd_words {ws : List Str} {k : Nat} : (rdF ws k).lookup (Str.ofString "words") = some (D.lst (ws.map .str)) := rfl
theorem rd_at {ws : List Str} {k : Nat} : (rdF ws k).lookup (Str.ofString "at") = some (D.int (k : Nat)) := rfl
theorem rd_put (ws : List Str) (k : Nat) : putD (Str.ofString "at") (.int ((k : Nat) + 1)) (rdF ws k) = rdF ws (k + 1) := by
  unfold rdF putD
  rw [if_neg (by decide +kernel)]
  unfold putD
  rw [if_pos rfl, Int.natCast_add]
  rfl
def sp_Reader___init__ (a : Ad) : DSp := fun ds G R => ∃ (p dx : Addr) (ws : List Str), ds = [.ref p, .lst (ws.map .str)] ∧ G p = some (.ins a.c_Reader dx []) ∧ R .non (gup G p (.ins a.c_Reader dx (rdF ws 0)))
local macro_rules | `(tactic| walk_at "x") => `(tactic| first | dsimp only [x_fld, x_fldS, x_fldAug, x_meth, x_meth0D] | refine ⟨_, _, _, _, rfl, (by assumption), rd_words, ?_⟩ | refine ⟨_, _, _, _, rfl, (by assumption), rd_at, ?_⟩ | fail)
theorem ok_Reader___init__ {P : Program} {w : World} {K : PySem.W.Frag} {mg : Str → Option Value} {base : Heap} {a : Ad} (T : Tx w K mg a) : FnD P w K mg base 1 a.f_Reader___init__ a.fd_Reader___init__ ["self", "words"] (sp_Reader___init__ a) := by
  refine fun_okD T.F_Reader___init__ sc_Reader___init__ (fun ds G R h => ?_) (fun cdv A outer s H hr => ⟨_, (qss_cons (qs_fld T.cl_Reader T.na_Reader_words (qv 0) (qv 1))
      (qss_one (qs_fld T.cl_Reader T.na_Reader_at (qv 0) qe_int))), fun ds G R h => ?_⟩)
  · obtain ⟨p, dx, ws, rfl, _⟩ := h; rfl
  · obtain ⟨p, dx, ws, rfl, e, h⟩ := h
    walk_at "go"
    refine ⟨p, dx, _, rfl, e, by simp, ?_⟩
    walk_at "go"
    refine ⟨p, dx, _, rfl, gup_same, by simp [putD], ?_⟩
    rw [gup_gup]
    exact ⟨_, Sub.refl _, h⟩
def sp_Reader_ahead (a : Ad) : DSp := fun ds G R => ∃ (p dx : Addr) (ws : List Str) (k many : Nat), ds = [.ref p, .int (many : Nat)] ∧ G p = some (.ins a.c_Reader dx (rdF ws k)) ∧ R (.str ((ws[k + many]?).getD "")) G
theorem ok_Reader_ahead {P : Program} {w : World} {K : PySem.W.Frag} {mg : Str → Option Value} {base : Heap} {a : Ad} (T : Tx w K mg a) : FnD P w K mg base 1 a.f_Reader_ahead a.fd_Reader_ahead ["self", "many"] (sp_Reader_ahead a) := by
  refine fun_okDD T.F_Reader_ahead sc_Reader_ahead (fun ds G R h => ?_) (fun cdv A outer s H hr => ⟨_, (qss_cons (qs_set (i := 2) sc_Reader_ahead.nd rfl (.inl rfl) (qe_op (od_add false) (qe_fld T.cl_Reader T.na_Reader_at (qv 0)) (qv 1)))
      (qss_one (qs_ret (qe_ifExp (qt_cmp (od_ltE (room100 hr)) (qv 2) (qe_callB cd_len rfl T.n_len (by decide +kernel) (qa_cons (qe_fld T.cl_Reader T.na_Reader_words (qv 0)) qa_nil)) (nomark _)) (qe_ix xd_ix (qe_fld T.cl_Reader T.na_Reader_words (qv 0)) (qv 2) (fun _ _ => rfl)) qe_str)))), fun ds G R h => ?_⟩)
  · obtain ⟨p, dx, ws, k, many, rfl, _⟩ := h; rfl
  · obtain ⟨p, dx, ws, k, many, rfl, e, h⟩ := h
    walk_at "go"
    rw [show ((k : Nat) : Int) + (many : Nat) = ((k + many : Nat) : Int) by omega]
    by_cases c : k + many < ws.length
    · rw [decide_eq_true (by rw [List.length_map]; omega)]
      refine ⟨p, dx, _, _, rfl, e, rd_words, ?_⟩
      walk_at "go"
      rw [atI_nat (v := D.str ws[k + many]) (by rw [List.getElem?_map, List.getElem?_eq_getElem c]; rfl), isN_some]
      rw [List.getElem?_eq_getElem c] at h
      exact rt_same h
    · rw [decide_eq_false (by rw [List.length_map]; omega)]
      rw [List.getElem?_eq_none (by omega)] at h
      exact rt_same h
theorem go_ahead {a : Ad} {p dx : Addr} {ws : List Str} {k many : Nat} {G : Gp} {R : DK} (e : G p = some (.ins a.c_Reader dx (rdF ws k))) (h : R (.str ((ws[k + many]?).getD "")) G) : sp_Reader_ahead a [.ref p, .int (many : Nat)] G R := ⟨p, dx, ws, k, many, rfl, e, h⟩
def sp_Reader_take (a : Ad) : DSp := fun ds G R => ∃ (p dx : Addr) (ws : List Str) (k : Nat) (due w : Str), ds = [.ref p, .str due] ∧ G p = some (.ins a.c_Reader dx (rdF ws k)) ∧ ws[k]? = some w ∧ w ≠ "" ∧ pyD (.str w) = true ∧ (due = "" ∨ due = w) ∧ R (.str w) (gup G p (.ins a.c_Reader dx (rdF ws (k + 1))))
theorem ok_Reader_take {P : Program} {w : World} {K : PySem.W.Frag} {mg : Str → Option Value} {base : Heap} {a : Ad} (T : Tx w K mg a) : FnD P w K mg base 2 a.f_Reader_take a.fd_Reader_take ["self", "due"] (sp_Reader_take a) := by
  refine fun_okDD T.F_Reader_take sc_Reader_take (fun ds G R h => ?_) (fun cdv A outer s H hr => ⟨_, (qss_cons (qs_set (i := 2) sc_Reader_take.nd rfl (.inl rfl) (qe_meth0D [.int 0] [.int 0] (rds_i 0) (qv 0) T.cl_Reader T.m_Reader_ahead (ok_Reader_ahead T) (hr.mono (by omega)) T.bd_Reader_ahead))
      (qss_cons (qs_if (QW.pt (qw_or (qt_cmp (od_eq hr.units) (qv 2) qe_str (nomark _)) (qw_or1 (qt_cmp (od_notInE (room100 hr)) (qv 1) (qe_tup (qa_cons qe_str (qa_cons (qv 2) qa_nil))) rfl))))
      (qss_one qs_never)
      qss_nil)
      (qss_cons (qs_fldaug T.cl_Reader T.na_Reader_at (qv 0) qe_int od_iadd)
      (qss_one (qs_ret (qv 2)))))), fun ds G R h => ?_⟩)
  · obtain ⟨p, dx, ws, k, due, w, rfl, _⟩ := h; rfl
  · obtain ⟨p, dx, ws, k, due, w, rfl, e, hw, hn, hp, hd, h⟩ := h
    walk_at "go"
    refine ⟨p, dx, _, rfl, e, rfl, ?_⟩
    refine go_ahead (many := 0) e ?_
    rw [Nat.add_zero, hw]
    dsimp only [Option.getD_some]
    walk_at "go"
    rw [if_neg hn]
    refine ⟨small_line (by decide), ?_⟩
    refine inE_tupS (zs := [Str.ofString "", w]) (by rcases hd with rfl | rfl; decide +kernel; exact hp) (fun y hy => ?_) ?_
    · simp only [List.mem_cons, List.not_mem_nil, or_false] at hy
      rcases hy with rfl | rfl
      · decide +kernel
      · exact hp
    rw [decide_eq_true (by rcases hd with rfl | rfl <;> simp)]
    walk_at "go"
    refine ⟨dx, _, e, by simp, ?_⟩
    walk_at "go"
    rw [rd_put]
    exact h
theorem go_take {a : Ad} {p dx : Addr} {ws : List Str} {k : Nat} {due w : Str} {G : Gp} {R : DK} (e : G p = some (.ins a.c_Reader dx (rdF ws k))) (hw : ws[k]? = some w) (hn : w ≠ "") (hp : pyD (.str w) = true) (hd : due = "" ∨ due = w) (h : R (.str w) (gup G p (.ins a.c_Reader dx (rdF ws (k + 1))))) : sp_Reader_take a [.ref p, .str due] G R := ⟨p, dx, ws, k, due, w, rfl, e, hw, hn, hp, hd, h⟩
end K19


set_option Elab.async false
set_option linter.all false
set_option maxRecDepth 100000
set_option maxHeartbeats 4000000
set_option autoImplicit false
namespace K19
open PySem PySem.Spec PyProof.Rows L2 DL
local macro_rules | `(tactic| walk_at "d") => `(tactic| dsimp only [dSeq, dNext, dIfS, dRet, dRetN, dAsg, dName, dVar, dC, dOp, dUn, dChain, dB, dAnd, dOr, dNot, dAndV, dOrV, dNotV, dIf, dNil, dCons, dTup, dLst, newL, dCallB, dCall, dCallK, dDrop, dAug, dAugS, dSub, dM, dM0, dSlice, dNoPart, dPart, dLc, dYes, dFor, dIter, dRng1, dEnum, dZipM, srcD, dStar, dInK, dIxK, dLenSet, dRev,
  startD, wipeD, setAll, dNames, List.map_cons, List.map_nil, List.length_cons, List.length_nil, List.replicate, List.cons_append, List.nil_append, List.append_nil, List.getElem?_cons_zero, List.getElem?_cons_succ, List.set_cons_zero, List.set_cons_succ, List.map, Nat.zero_add, Nat.reduceAdd, Nat.reduceSub, Nat.sub_self, Nat.succ_sub_succ_eq_sub])
local macro_rules | `(tactic| walk_at "o") => `(tactic| simp only [dAdd_ii, dAdd_ss, dAdd_tt, dAdd_ll, dMinus_ii, dMul_ii, dMod_ii, dFdiv_ii, dPow_ii, dShl_ii, dNeg_i, dIadd_ii, dLt_ii, dLe_ii, dGt_ii, dGe_ii, dEq_ii, dNe_ii, dEq_ss, dNe_ss, dEq_bb, dNe_bb, dIs_n, dIsNot_n, dMax2_ii, dMin2_ii, dTuple_t, dTuple_l, dList_t, dList_l, dIx_t, dIx_l, dIx_s, dSl_t, dSl_l, dSl_s, newL_f, len_tup, len_lst])
local macro_rules | `(tactic| walk_at "w") => `(tactic| dsimp only [x_var, x_c, x_op, x_un, x_b, x_and, x_or, x_not, x_chain, x_andV, x_orV, x_notV, x_if, x_nil, x_cons, x_tup, x_lst0, x_lst1, x_callB, x_call, x_callK, x_next, x_seq, x_break, x_cont, x_drop, x_ret, x_ifS, x_asg, x_name, x_names, x_sub, x_aug, x_augS, x_for, x_lc0, x_lc1, x_yes, x_noPart, x_part, x_slice, x_iter, it_t, it_l, it_n, it_s, it_r, x_rng1, x_enum, x_rev, x_m, x_m0, x_mX, x_zip, x_star_t, x_star_l, x_lenSet, x_forgo0, x_lcgo0, x_while, x_par, x_sortK,
  br_t, br_f, isB_bl, isI_int, isN_some, slo_some, atL_lst, ix_t, ix_l, ix_n,
  dAdd_ii, dAdd_ss, dAdd_tt, dAdd_ll, dMinus_ii, dMul_ii, dMod_ii, dFdiv_ii, dPow_ii, dShl_ii, dNeg_i, dIadd_ii, dLt_ii, dLe_ii, dGt_ii, dGe_ii, ltE_ii, ltE_ss, srcD, isi_i, isi_s, isi_b, isi_n, isi_t, isi_nt, isi_l, isi2_i, isi2_s, isi2_b, isi2_n, isi2_t, isi2_nt, isi2_l, inon_n, inon_i, inon_s, inon_b, inon_t, inon_l, inon_r, dEq_ii, dNe_ii, dEq_ss, dNe_ss, dEq_bb, dNe_bb, dIs_n, dIsNot_n, dMax2_ii, dMin2_ii, dTuple_t, dTuple_l, dList_t, dList_l, dSl_t, dSl_l, dSl_s, newL_f, newL_t, app_r, int_b, int_i, strI_i, strX_i, strX_s,
  startD, wipeD, setAll, permL, List.filterMap, List.map_cons, List.map_nil, List.length_cons, List.length_nil, List.replicate, List.cons_append, List.nil_append, List.append_nil, List.getElem?_cons_zero, List.getElem?_cons_succ, List.set_cons_zero, List.set_cons_succ, List.map, Nat.zero_add, Nat.reduceAdd, Nat.reduceSub, Nat.sub_self, Nat.succ_sub_succ_eq_sub])
local macro_rules | `(tactic| walk_at "v") => `(tactic| simp only [ofString_inj, String.reduceEq, at_0, at_1, at_2, at_3, at_4, at_5, isN_some, isBB_bl, isB_bl, br_t, br_f, br_not, br_and, br_or, br_dec, ix_r, len_tup, len_lst, len_nt, ltE_key, gup_gup, gup_same, starD_one, cut1, cut2, kt1, kt2, kt3, kt4, kt5, kt6, isTy, String.reduceBEq, Bool.or_false, Bool.false_or, Bool.true_or, Bool.or_true, Bool.and_false, Bool.false_and, Bool.true_and, Bool.and_true, Bool.not_true, Bool.not_false, decide_true, decide_false, eq_self_iff_true, Bool.false_eq_true, Int.reduceAdd, Int.add_zero, if_true, if_false, true_and, and_true])
local macro_rules | `(tactic| walk_at "side") => `(tactic| first | with_reducible assumption | omega | exact mty_up | exact True.intro | (simp only [List.mem_cons, ofString_inj, String.reduceEq, true_or, or_true, List.length_map]; done) | with_reducible exact (rfl : (_ : Nat) = _) | exact (rfl : (_ : Option String) = _) | (refine small_line ?_; omega) | (walk_at "ll"; first | omega | (refine small_line ?_; omega) | fail) | (exact log_small (by omega)) | fail)
local macro_rules | `(tactic| walk_at "x") => `(tactic| fail)
local macro_rules | `(tactic| walk_at "go") => `(tactic| repeat' (first | dsimp only [x_var, x_c, x_op, x_un, x_b, x_and, x_or, x_not, x_chain, x_andV, x_orV, x_notV, x_if, x_nil, x_cons, x_tup, x_lst0, x_lst1, x_callB, x_call, x_callK, x_next, x_seq, x_break, x_cont, x_drop, x_ret, x_ifS, x_asg, x_name, x_names, x_sub, x_aug, x_augS, x_for, x_lc0, x_lc1, x_yes, x_noPart, x_part, x_slice, x_iter, it_t, it_l, it_n, it_s, it_r, x_rng1, x_enum, x_rev, x_m, x_m0, x_mX, x_zip, x_star_t, x_star_l, x_lenSet, x_forgo0, x_lcgo0, x_while, x_par, x_sortK, br_t, br_f, isB_bl, isI_int, isN_some, slo_some, atL_lst, ix_t, ix_l, ix_n, dAdd_ii, dAdd_ss, dAdd_tt, dAdd_ll, dMinus_ii, dMul_ii, dMod_ii, dFdiv_ii, dPow_ii, dShl_ii, dNeg_i, dIadd_ii, dLt_ii, dLe_ii, dGt_ii, dGe_ii, ltE_ii, ltE_ss, srcD, isi_i, isi_s, isi_b, isi_n, isi_t, isi_nt, isi_l, isi2_i, isi2_s, isi2_b, isi2_n, isi2_t, isi2_nt, isi2_l, inon_n, inon_i, inon_s, inon_b, inon_t, inon_l, inon_r, dEq_ii, dNe_ii, dEq_ss, dNe_ss, dEq_bb, dNe_bb, dIs_n, dIsNot_n, dMax2_ii, dMin2_ii, dTuple_t, dTuple_l, dList_t, dList_l, dSl_t, dSl_l, dSl_s, newL_f, newL_t, app_r, int_b, int_i, strI_i, strX_i, strX_s, startD, wipeD, setAll, permL, List.filterMap, List.map_cons, List.map_nil, List.length_cons, List.length_nil, List.replicate, List.cons_append, List.nil_append, List.append_nil, List.getElem?_cons_zero, List.getElem?_cons_succ, List.set_cons_zero, List.set_cons_succ, List.map, Nat.zero_add, Nat.reduceAdd, Nat.reduceSub, Nat.sub_self, Nat.succ_sub_succ_eq_sub] | simp only [ofString_inj, String.reduceEq, at_0, at_1, at_2, at_3, at_4, at_5, isN_some, isBB_bl, isB_bl, br_t, br_f, br_not, br_and, br_or, br_dec, ix_r, len_tup, len_lst, len_nt, ltE_key, gup_gup, gup_same, starD_one, cut1, cut2, kt1, kt2, kt3, kt4, kt5, kt6, isTy, String.reduceBEq, Bool.or_false, Bool.false_or, Bool.true_or, Bool.or_true, Bool.and_false, Bool.false_and, Bool.true_and, Bool.and_true, Bool.not_true, Bool.not_false, decide_true, decide_false, eq_self_iff_true, Bool.false_eq_true, Int.reduceAdd, Int.add_zero, if_true, if_false, true_and, and_true] | walk_at "x" | with_reducible refine kont_go ?_ | with_reducible refine rt_sub (by assumption) ?_ | with_reducible refine rt_lst (by assumption) ?_ | with_reducible refine rt_drop (by assumption) ?_ | with_reducible refine rt_keep (by assumption) (by assumption) ?_ | with_reducible refine rt_same ?_ | (refine fun (p : Addr) (_ : _ = none) => ?_) | refine join_gor gup_same rfl (by walk_at "side") ?_ | with_reducible refine lc_cons ?_ | with_reducible refine for_cons ?_ | refine join_go rfl (by walk_at "side") ?_ | refine And.intro (by first | with_reducible assumption | omega | exact mty_up | exact True.intro | (simp only [List.mem_cons, ofString_inj, String.reduceEq, true_or, or_true, List.length_map]; done) | with_reducible exact (rfl : (_ : Nat) = _) | exact (rfl : (_ : Option String) = _) | (refine small_line ?_; omega) | (walk_at "ll"; first | omega | (refine small_line ?_; omega) | fail) | (exact log_small (by omega)) | fail) ?_ | fail))
local macro_rules | `(tactic| walk_at "ll") => `(tactic| simp only [List.length_map, List.length_append, List.length_cons, List.length_nil, List.map_cons, List.map_nil, List.sum_cons, List.sum_nil, len_app, rng_length, ll_0, ll_1, ll_2, ll_3, ll_4, ll_5, ll_6, ll_7, ll_8, ll_9, ll_10, ll_11, ll_12, ll_13, ll_14, ll_15, ll_16, ll_17, ll_18, ll_19, ll_20, ll_21, ll_22, ll_23, ll_24, ll_25, ll_26, ll_27, ll_28, ll_29, ll_30, ll_31, ll_32, ll_33, ll_34, ll_35, ll_36, ll_37, ll_38, ll_39, ll_40, ll_41, ll_42, ll_43, ll_44, ll_45, ll_46, ll_47, ll_48, ll_49, ll_50, ll_51, ll_52, ll_53, ll_54])
/-! ### texts read -/
def dig (c : Nat) : Bool := decide (48 ≤ c) && decide (c ≤ 57)
theorem num_dig : ∀ k : Fin 301, (cds (Str.ofString (toString ((k.val : Nat) : Int)))).all dig = true ∧ 1 ≤ (Str.ofString (toString ((k.val : Nat) : Int))).length ∧ (Str.ofString (toString ((k.val : Nat) : Int))).length ≤ 9 := by decide +kernel
theorem num_zero : ∀ k : Fin 301, atI (cds (Str.ofString (toString ((k.val : Nat) : Int)))) 0 = some 48 → Str.ofString (toString ((k.val : Nat) : Int)) = "0" := by decide +kernel
/-- what stands for a number, and what does not -/
def numIs (z : Str) (r : D) : Prop := (∃ k : Nat, k ≤ 300 ∧ z = Str.ofString (toString (k : Int)) ∧ r = .int k) ∨ ((z.length = 0 ∨ ∃ c ∈ cds z, dig c = false) ∧ z.length ≤ 1000 ∧ r = .non)
def sp_number_in : DSp := fun ds G R => ∃ (z : Str) (r : D), ds = [.str z] ∧ numIs z r ∧ R r G
theorem fig_in {c : Nat} {G : Gp} {R : DK} (k : R (.bl (dig c)) G) : dInE id (.str ⟨#[c]⟩) (.str "0123456789") G R := by
  show dInW id (.str ⟨#[c]⟩) (.str "0123456789") G R
  show R (.bl (decide (c ∈ (Str.ofString "0123456789").cps.toList))) G
  have e : decide (c ∈ (Str.ofString "0123456789").cps.toList) = dig c := by
    have e2 : (Str.ofString "0123456789").cps.toList = [48, 49, 50, 51, 52, 53, 54, 55, 56, 57] := by decide +kernel
    rw [e2]
    unfold dig
    rw [Bool.eq_iff_iff]
    simp only [List.mem_cons, List.not_mem_nil, or_false, decide_eq_true_eq, Bool.and_eq_true]
    omega
  rw [e]
  exact k
theorem ok_number_in {P : Program} {w : World} {K : PySem.W.Frag} {mg : Str → Option Value} {base : Heap} {a : Ad} (T : Tx w K mg a) : FnD P w K mg base 1 a.f_number_in a.fd_number_in ["word"] sp_number_in := by
  refine fun_okD T.F_number_in sc_number_in (fun ds G R h => ?_) (fun cdv A outer s H hr => ⟨_, (qss_cons (qs_if (QW.pt (qw_or (qt_not (qt_chain od_le od_le qe_int (qe_callB cd_len rfl T.n_len (by decide +kernel) (qa_cons (qv 0) qa_nil)) (qe_globI rfl T.c_MOST_FIGURES))) (qw_or1 (qt_not (qt_val (qe_callB (cd_all rfl) rfl T.n_all (by decide +kernel) (qa_cons (qe_lc false rfl sc_number_in.nd (qi_seq (qv 0)) (blkOk_by (own := [("sign", 1)]) (N := N_number_in) (sc := defScope s_number_in) (by decide +kernel)) (fun _ _ _ _ _ => (pg_name (i := 1) sc_number_in.nd rfl (.inl rfl))) (tg_name (i := 1) (by decide)) (fun _ _ _ _ _ => qts_nil) (fun _ _ _ _ _ => (qe_cmp (od_inE (room100 hr)) (qv 1) (qe_globS rfl T.c_FIGURES) rfl))) qa_nil)))))))
      (qss_one (qs_ret qe_non))
      qss_nil)
      (qss_cons (qs_if (QW.pt (qw_and (qt_cmp (od_eq hr.units) (qe_ix xd_ix (qv 0) qe_int (fun _ _ => rfl)) qe_str (nomark _)) (qw_and1 (qt_cmp (od_ne hr.units) (qv 0) qe_str (nomark _)))))
      (qss_one (qs_ret qe_non))
      qss_nil)
      (qss_one (qs_ret (qe_callTy cd_intS rfl T.n_int (by decide +kernel) (qa_cons (qv 0) qa_nil)))))), fun ds G R h => ?_⟩)
  · obtain ⟨z, r, rfl, _⟩ := h; rfl
  · obtain ⟨z, r, rfl, hn, h⟩ := h
    rcases hn with ⟨k, hk, rfl, rfl⟩ | ⟨hz, hl, rfl⟩
    · have nd := num_dig ⟨k, by omega⟩
      have nz := num_zero ⟨k, by omega⟩
      have ni := int_num ⟨k, by omega⟩
      simp only at nd nz ni
      generalize Str.ofString (toString (k : Int)) = z at nd nz ni ⊢
      have hln : z.length = (cds z).length := (cds_len z).symm
      have hsg : signsD z = (cds z).map fun c => D.str ⟨#[c]⟩ := rfl
      obtain ⟨c, cs, ec⟩ : ∃ c cs, cds z = c :: cs := by
        cases e : cds z with
        | nil => rw [e] at hln; simp at hln; omega
        | cons c cs => exact ⟨c, cs, rfl⟩
      have hat : atI z.cps.toList 0 = some c := by show atI (cds z) 0 = some c; rw [ec]; exact at_0
      walk_at "go"
      rw [if_pos (by omega), if_pos (by omega), hsg]
      refine ⟨small_line (by rw [List.length_map]; omega), ?_⟩
      refine all_typ (gd := fun _ => True) (fun c => D.str ⟨#[c]⟩) dig True.intro (cds z) (fun c _ Q q => ?_) ?_
      · walk_at "go"
        exact fig_in q
      rw [nd.1]
      walk_at "go"
      rw [hat]
      dsimp only
      by_cases c0 : c = 48
      · have ez := nz (by rw [ec, c0]; exact at_0)
        have e1 : (⟨#[c]⟩ : Str) = "0" := by rw [c0]; decide +kernel
        rw [if_pos e1, if_pos ez]
        walk_at "go"
        refine intS_go ni (by omega) ?_
        walk_at "go"
        exact h
      · have e1 : ¬ (⟨#[c]⟩ : Str) = "0" := fun e => by
          have := congrArg cds e
          rw [show cds ("0" : Str) = [48] by decide +kernel] at this
          exact c0 (by simpa [cds] using this)
        rw [if_neg e1]
        walk_at "go"
        refine intS_go ni (by omega) ?_
        walk_at "go"
        exact h
    · have hln : z.length = (cds z).length := (cds_len z).symm
      have hsg : signsD z = (cds z).map fun c => D.str ⟨#[c]⟩ := rfl
      walk_at "go"
      split
      · split
        · rename_i h1 h9
          rw [hsg]
          refine ⟨small_line (by rw [List.length_map]; omega), ?_⟩
          refine all_typ (gd := fun _ => True) (fun c => D.str ⟨#[c]⟩) dig True.intro (cds z) (fun c _ Q q => ?_) ?_
          · walk_at "go"
            exact fig_in q
          have e : (cds z).all dig = false := by
            rcases hz with hz | ⟨c, hc, hd⟩
            · omega
            · cases hall : (cds z).all dig with
              | false => rfl
              | true => rw [List.all_eq_true.mp hall c hc] at hd; cases hd
          rw [e]
          walk_at "go"
          exact h
        · walk_at "go"
          exact h
      · walk_at "go"
        exact h
theorem go_number {z : Str} {r : D} {G : Gp} {R : DK} (hn : numIs z r) (k : R r G) : sp_number_in [.str z] G R := ⟨z, r, rfl, hn, k⟩
end K19


set_option Elab.async false
set_option linter.all false
set_option maxRecDepth 100000
set_option maxHeartbeats 4000000
set_option autoImplicit false
namespace K19
open PySem PySem.Spec PyProof.Rows L2 DL
local macro_rules | `(tactic| walk_at "d") => `(tactic| dsimp only [dSeq, dNext, dIfS, dRet, dRetN, dAsg, dName, dVar, dC, dOp, dUn, dChain, dB, dAnd, dOr, dNot, dAndV, dOrV, dNotV, dIf, dNil, dCons, dTup, dLst, newL, dCallB, dCall, dCallK, dDrop, dAug, dAugS, dSub, dM, dM0, dSlice, dNoPart, dPart, dLc, dYes, dFor, dIter, dRng1, dEnum, dZipM, srcD, dStar, dInK, dIxK, dLenSet, dRev,
  startD, wipeD, setAll, dNames, List.map_cons, List.map_nil, List.length_cons, List.length_nil, List.replicate, List.cons_append, List.nil_append, List.append_nil, List.getElem?_cons_zero, List.getElem?_cons_succ, List.set_cons_zero, List.set_cons_succ, List.map, Nat.zero_add, Nat.reduceAdd, Nat.reduceSub, Nat.sub_self, Nat.succ_sub_succ_eq_sub])
local macro_rules | `(tactic| walk_at "o") => `(tactic| simp only [dAdd_ii, dAdd_ss, dAdd_tt, dAdd_ll, dMinus_ii, dMul_ii, dMod_ii, dFdiv_ii, dPow_ii, dShl_ii, dNeg_i, dIadd_ii, dLt_ii, dLe_ii, dGt_ii, dGe_ii, dEq_ii, dNe_ii, dEq_ss, dNe_ss, dEq_bb, dNe_bb, dIs_n, dIsNot_n, dMax2_ii, dMin2_ii, dTuple_t, dTuple_l, dList_t, dList_l, dIx_t, dIx_l, dIx_s, dSl_t, dSl_l, dSl_s, newL_f, len_tup, len_lst])
local macro_rules | `(tactic| walk_at "w") => `(tactic| dsimp only [x_var, x_c, x_op, x_un, x_b, x_and, x_or, x_not, x_chain, x_andV, x_orV, x_notV, x_if, x_nil, x_cons, x_tup, x_lst0, x_lst1, x_callB, x_call, x_callK, x_next, x_seq, x_break, x_cont, x_drop, x_ret, x_ifS, x_asg, x_name, x_names, x_sub, x_aug, x_augS, x_for, x_lc0, x_lc1, x_yes, x_noPart, x_part, x_slice, x_iter, it_t, it_l, it_n, it_s, it_r, x_rng1, x_enum, x_rev, x_m, x_m0, x_mX, x_zip, x_star_t, x_star_l, x_lenSet, x_forgo0, x_lcgo0, x_while, x_par, x_sortK,
  br_t, br_f, isB_bl, isI_int, isN_some, slo_some, atL_lst, ix_t, ix_l, ix_n,
  dAdd_ii, dAdd_ss, dAdd_tt, dAdd_ll, dMinus_ii, dMul_ii, dMod_ii, dFdiv_ii, dPow_ii, dShl_ii, dNeg_i, dIadd_ii, dLt_ii, dLe_ii, dGt_ii, dGe_ii, ltE_ii, ltE_ss, srcD, isi_i, isi_s, isi_b, isi_n, isi_t, isi_nt, isi_l, isi2_i, isi2_s, isi2_b, isi2_n, isi2_t, isi2_nt, isi2_l, inon_n, inon_i, inon_s, inon_b, inon_t, inon_l, inon_r, dEq_ii, dNe_ii, dEq_ss, dNe_ss, dEq_bb, dNe_bb, dIs_n, dIsNot_n, dMax2_ii, dMin2_ii, dTuple_t, dTuple_l, dList_t, dList_l, dSl_t, dSl_l, dSl_s, newL_f, newL_t, app_r, int_b, int_i, strI_i, strX_i, strX_s,
  startD, wipeD, setAll, permL, List.filterMap, List.map_cons, List.map_nil, List.length_cons, List.length_nil, List.replicate, List.cons_append, List.nil_append, List.append_nil, List.getElem?_cons_zero, List.getElem?_cons_succ, List.set_cons_zero, List.set_cons_succ, List.map, Nat.zero_add, Nat.reduceAdd, Nat.reduceSub, Nat.sub_self, Nat.succ_sub_succ_eq_sub])
local macro_rules | `(tactic| walk_at "v") => `(tactic| simp only [ofString_inj, String.reduceEq, at_0, at_1, at_2, at_3, at_4, at_5, isN_some, isBB_bl, isB_bl, br_t, br_f, br_not, br_and, br_or, br_dec, ix_r, len_tup, len_lst, len_nt, ltE_key, gup_gup, gup_same, starD_one, cut1, cut2, kt1, kt2, kt3, kt4, kt5, kt6, isTy, String.reduceBEq, Bool.or_false, Bool.false_or, Bool.true_or, Bool.or_true, Bool.and_false, Bool.false_and, Bool.true_and, Bool.and_true, Bool.not_true, Bool.not_false, decide_true, decide_false, eq_self_iff_true, Bool.false_eq_true, Int.reduceAdd, Int.add_zero, if_true, if_false, true_and, and_true])
local macro_rules | `(tactic| walk_at "side") => `(tactic| first | with_reducible assumption | omega | exact mty_up | exact True.intro | (simp only [List.mem_cons, ofString_inj, String.reduceEq, true_or, or_true, List.length_map]; done) | with_reducible exact (rfl : (_ : Nat) = _) | exact (rfl : (_ : Option String) = _) | (refine small_line ?_; omega) | (walk_at "ll"; first | omega | (refine small_line ?_; omega) | fail) | (exact log_small (by omega)) | fail)
local macro_rules | `(tactic| walk_at "x") => `(tactic| fail)
local macro_rules | `(tactic| walk_at "go") => `(tactic| repeat' (first | dsimp only [x_var, x_c, x_op, x_un, x_b, x_and, x_or, x_not, x_chain, x_andV, x_orV, x_notV, x_if, x_nil, x_cons, x_tup, x_lst0, x_lst1, x_callB, x_call, x_callK, x_next, x_seq, x_break, x_cont, x_drop, x_ret, x_ifS, x_asg, x_name, x_names, x_sub, x_aug, x_augS, x_for, x_lc0, x_lc1, x_yes, x_noPart, x_part, x_slice, x_iter, it_t, it_l, it_n, it_s, it_r, x_rng1, x_enum, x_rev, x_m, x_m0, x_mX, x_zip, x_star_t, x_star_l, x_lenSet, x_forgo0, x_lcgo0, x_while, x_par, x_sortK, br_t, br_f, isB_bl, isI_int, isN_some, slo_some, atL_lst, ix_t, ix_l, ix_n, dAdd_ii, dAdd_ss, dAdd_tt, dAdd_ll, dMinus_ii, dMul_ii, dMod_ii, dFdiv_ii, dPow_ii, dShl_ii, dNeg_i, dIadd_ii, dLt_ii, dLe_ii, dGt_ii, dGe_ii, ltE_ii, ltE_ss, srcD, isi_i, isi_s, isi_b, isi_n, isi_t, isi_nt, isi_l, isi2_i, isi2_s, isi2_b, isi2_n, isi2_t, isi2_nt, isi2_l, inon_n, inon_i, inon_s, inon_b, inon_t, inon_l, inon_r, dEq_ii, dNe_ii, dEq_ss, dNe_ss, dEq_bb, dNe_bb, dIs_n, dIsNot_n, dMax2_ii, dMin2_ii, dTuple_t, dTuple_l, dList_t, dList_l, dSl_t, dSl_l, dSl_s, newL_f, newL_t, app_r, int_b, int_i, strI_i, strX_i, strX_s, startD, wipeD, setAll, permL, List.filterMap, List.map_cons, List.map_nil, List.length_cons, List.length_nil, List.replicate, List.cons_append, List.nil_append, List.append_nil, List.getElem?_cons_zero, List.getElem?_cons_succ, List.set_cons_zero, List.set_cons_succ, List.map, Nat.zero_add, Nat.reduceAdd, Nat.reduceSub, Nat.sub_self, Nat.succ_sub_succ_eq_sub] | simp only [ofString_inj, String.reduceEq, at_0, at_1, at_2, at_3, at_4, at_5, isN_some, isBB_bl, isB_bl, br_t, br_f, br_not, br_and, br_or, br_dec, ix_r, len_tup, len_lst, len_nt, ltE_key, gup_gup, gup_same, starD_one, cut1, cut2, kt1, kt2, kt3, kt4, kt5, kt6, isTy, String.reduceBEq, Bool.or_false, Bool.false_or, Bool.true_or, Bool.or_true, Bool.and_false, Bool.false_and, Bool.true_and, Bool.and_true, Bool.not_true, Bool.not_false, decide_true, decide_false, eq_self_iff_true, Bool.false_eq_true, Int.reduceAdd, Int.add_zero, if_true, if_false, true_and, and_true] | walk_at "x" | with_reducible refine kont_go ?_ | with_reducible refine rt_sub (by assumption) ?_ | with_reducible refine rt_lst (by assumption) ?_ | with_reducible refine rt_drop (by assumption) ?_ | with_reducible refine rt_keep (by assumption) (by assumption) ?_ | with_reducible refine rt_same ?_ | (refine fun (p : Addr) (_ : _ = none) => ?_) | refine join_gor gup_same rfl (by walk_at "side") ?_ | with_reducible refine lc_cons ?_ | with_reducible refine for_cons ?_ | refine join_go rfl (by walk_at "side") ?_ | refine And.intro (by first | with_reducible assumption | omega | exact mty_up | exact True.intro | (simp only [List.mem_cons, ofString_inj, String.reduceEq, true_or, or_true, List.length_map]; done) | with_reducible exact (rfl : (_ : Nat) = _) | exact (rfl : (_ : Option String) = _) | (refine small_line ?_; omega) | (walk_at "ll"; first | omega | (refine small_line ?_; omega) | fail) | (exact log_small (by omega)) | fail) ?_ | fail))
local macro_rules | `(tactic| walk_at "ll") => `(tactic| simp only [List.length_map, List.length_append, List.length_cons, List.length_nil, List.map_cons, List.map_nil, List.sum_cons, List.sum_nil, len_app, rng_length, ll_0, ll_1, ll_2, ll_3, ll_4, ll_5, ll_6, ll_7, ll_8, ll_9, ll_10, ll_11, ll_12, ll_13, ll_14, ll_15, ll_16, ll_17, ll_18, ll_19, ll_20, ll_21, ll_22, ll_23, ll_24, ll_25, ll_26, ll_27, ll_28, ll_29, ll_30, ll_31, ll_32, ll_33, ll_34, ll_35, ll_36, ll_37, ll_38, ll_39, ll_40, ll_41, ll_42, ll_43, ll_44, ll_45, ll_46, ll_47, ll_48, ll_49, ll_50, ll_51, ll_52, ll_53, ll_54])
/-! ### terms read -/
theorem wd_ne {w : Str} (h : Wd w) : (w = Str.ofString "[") = False ∧ (w = Str.ofString "(") = False ∧ w ≠ Str.ofString "" := by
  obtain ⟨h0, h1⟩ := h
  refine ⟨eq_false fun e => ?_, eq_false fun e => ?_, fun e => ?_⟩
  · have := h1 91 (by rw [e]; decide +kernel); revert this; decide
  · have := h1 40 (by rw [e]; decide +kernel); revert this; decide
  · exact h0 (by rw [e]; decide +kernel)
theorem wd_py {w : Str} (h : Wd w) : pyD (.str w) = true := by
  simp only [pyD, List.all_eq_true, decide_eq_true_eq]
  intro c hc
  have := h.2 c hc
  unfold wd low figc at this
  simp only [Bool.or_eq_true, Bool.and_eq_true, decide_eq_true_eq] at this
  omega
theorem tok_at {pre a r : List Str} {w : Str} : (pre ++ (a ++ w :: r))[pre.length + a.length]? = some w := by
  rw [← List.append_assoc, List.getElem?_append_right (by rw [List.length_append]; exact Nat.le_refl _)]
  simp
theorem tok_at0 {pre r : List Str} {w : Str} : (pre ++ w :: r)[pre.length]? = some w := by simp
def sp_Reader_term (a : Ad) (n : Nat) : DSp := fun ds G R => ∃ (M : Mach) (p dx : Addr) (ws : List Str) (k left : Nat) (x : Tm) (pre post : List Str), ds = [.ref p, .int (left : Nat)] ∧ M.ok ∧ x.ok M ∧ x.dep ≤ left ∧ left ≤ n + 1 ∧ n ≤ 7 ∧ G p = some (.ins a.c_Reader dx (rdF ws k)) ∧ ws = pre ++ (x.tok ++ post) ∧ k = pre.length ∧ R x.d (gup G p (.ins a.c_Reader dx (rdF ws (k + x.tok.length))))
local macro_rules | `(tactic| walk_at "x") => `(tactic| first | dsimp only [x_meth, x_meth0D] | fail)
theorem ok0_Reader_term {P : Program} {w : World} {K : PySem.W.Frag} {mg : Str → Option Value} {base : Heap} {a : Ad} (T : Tx w K mg a) {n j : Nat} {sp' : DSp} (ih : FnD P w K mg base j a.f_Reader_term a.fd_Reader_term ["self", "left"] sp') (hj : j ≤ n + 2) (hs : ∀ m, n = m + 1 → ∀ ds G R, sp_Reader_term a m ds G R → sp' ds G R) : FnD P w K mg base (n + 3) a.f_Reader_term a.fd_Reader_term ["self", "left"] (sp_Reader_term a n) := by
  refine fun_okD T.F_Reader_term sc_Reader_term (fun ds G R h => ?_) (fun cdv A outer s H hr => ⟨_, (qss_cons (qs_if (qt_cmp (od_eq hr.units) (qv 1) qe_int (nomark _))
      (qss_one qs_never)
      qss_nil)
      (qss_cons (qs_set (i := 2) sc_Reader_term.nd rfl (.inl rfl) (qe_meth0D [.str ""] [.str ""] (rds_s "") (qv 0) T.cl_Reader T.m_Reader_take (ok_Reader_take T) (hr.mono (by omega)) T.bd_Reader_take))
      (qss_cons (qs_if (qt_cmp (od_eq hr.units) (qv 2) qe_str (nomark _))
      (qss_cons (qs_set (i := 3) sc_Reader_term.nd rfl (.inl rfl) (qe_meth (qv 0) T.cl_Reader T.m_Reader_term ih (hr.mono (by omega)) T.b_Reader_term (qa_cons (qe_op od_sub (qv 1) qe_int) qa_nil)))
      (qss_cons (qs_expr (qe_meth (qv 0) T.cl_Reader T.m_Reader_take (ok_Reader_take T) (hr.mono (by omega)) T.b_Reader_take (qa_cons qe_str qa_nil)))
      (qss_one (qs_ret (qe_tup (qa_cons qe_str (qa_cons (qv 3) qa_nil)))))))
      qss_nil)
      (qss_cons (qs_if (qt_cmp (od_eq hr.units) (qv 2) qe_str (nomark _))
      (qss_cons (qs_set (i := 4) sc_Reader_term.nd rfl (.inl rfl) (qe_meth (qv 0) T.cl_Reader T.m_Reader_term ih (hr.mono (by omega)) T.b_Reader_term (qa_cons (qe_op od_sub (qv 1) qe_int) qa_nil)))
      (qss_cons (qs_set (i := 5) sc_Reader_term.nd rfl (.inl rfl) (qe_meth0D [.str ""] [.str ""] (rds_s "") (qv 0) T.cl_Reader T.m_Reader_take (ok_Reader_take T) (hr.mono (by omega)) T.bd_Reader_take))
      (qss_cons (qs_set (i := 6) sc_Reader_term.nd rfl (.inl rfl) (qe_meth (qv 0) T.cl_Reader T.m_Reader_term ih (hr.mono (by omega)) T.b_Reader_term (qa_cons (qe_op od_sub (qv 1) qe_int) qa_nil)))
      (qss_cons (qs_expr (qe_meth (qv 0) T.cl_Reader T.m_Reader_take (ok_Reader_take T) (hr.mono (by omega)) T.b_Reader_take (qa_cons qe_str qa_nil)))
      (qss_one (qs_ret (qe_tup (qa_cons (qv 5) (qa_cons (qv 4) (qa_cons (qv 6) qa_nil))))))))))
      qss_nil)
      (qss_cons (qs_set (i := 7) sc_Reader_term.nd rfl (.inl rfl) (qe_call (ok_number_in T) (hr.mono (by omega)) rfl T.g_number_in T.F_number_in.kp T.b_number_in (qa_cons (qv 2) qa_nil)))
      (qss_one (qs_ret (qe_ifExp (qt_cmp od_is (qv 7) qe_non (nomark _)) (qe_tup (qa_cons qe_str (qa_cons (qv 2) qa_nil))) (qe_tup (qa_cons qe_str (qa_cons (qv 7) qa_nil))))))))))), fun ds G R h => ?_⟩)
  · obtain ⟨M, p, dx, ws, k, left, x, pre, post, rfl, _⟩ := h; rfl
  · obtain ⟨M, p, dx, ws, k, left, x, pre, post, rfl, hM, hx, hd, hl, hn7, e, hws, hk, h⟩ := h
    have hdp := x.dep_pos
    obtain ⟨l1, rfl⟩ : ∃ m, left = m + 1 := ⟨left - 1, by omega⟩
    have el : (((l1 + 1 : Nat) : Int)) - 1 = ((l1 : Nat) : Int) := by omega
    cases x with
    | num w =>
      have htop := top_le hM.b1 hM.b2
      have hw : (w : Int) < 2 ^ M.b.toNat := hx
      have hwd := num_wd (k := w) (by omega)
      obtain ⟨n1, n2, n3⟩ := wd_ne hwd
      have hat : ws[k]? = some (numT w) := by rw [hws, hk]; exact tok_at0
      walk_at "go"
      rw [if_neg (by omega)]
      refine ⟨p, dx, _, rfl, e, rfl, ?_⟩
      refine go_take e hat n3 (wd_py hwd) (.inl rfl) ?_
      walk_at "go"
      rw [if_neg (by rw [n1]; exact id)]
      walk_at "go"
      rw [if_neg (by rw [n2]; exact id)]
      walk_at "go"
      refine go_number (.inl ⟨w, by omega, rfl, rfl⟩) ?_
      walk_at "go"
      exact h
    | reg z =>
      have hwd := name_wd (hM.nm.1 z hx)
      obtain ⟨n1, n2, n3⟩ := wd_ne hwd
      have hat : ws[k]? = some z := by rw [hws, hk]; exact tok_at0
      walk_at "go"
      rw [if_neg (by omega)]
      refine ⟨p, dx, _, rfl, e, rfl, ?_⟩
      refine go_take e hat n3 (wd_py hwd) (.inl rfl) ?_
      walk_at "go"
      rw [if_neg (by rw [n1]; exact id)]
      walk_at "go"
      rw [if_neg (by rw [n2]; exact id)]
      walk_at "go"
      refine go_number (.inr ⟨.inr ?_, ?_, rfl⟩) ?_
      · obtain ⟨⟨h1, _⟩, h3⟩ := nameOk_iff.mp (hM.nm.1 z hx)
        cases ec : cds z with
        | nil => rw [ec] at h1; simp at h1
        | cons c s =>
          refine ⟨c, by simp, ?_⟩
          have := h3 c (by rw [ec]; simp)
          unfold low at this
          unfold dig
          simp only [Bool.and_eq_true, decide_eq_true_eq] at this
          simp
          omega
      · obtain ⟨⟨_, h2⟩, _⟩ := nameOk_iff.mp (hM.nm.1 z hx)
        rw [cds_len] at h2
        omega
      walk_at "go"
      exact h
    | load t =>
      simp only [Tm.dep] at hd
      have ht := t.dep_pos
      obtain ⟨n', rfl⟩ : ∃ m, n = m + 1 := ⟨n - 1, by omega⟩
      have hat : ws[k]? = some (Str.ofString "[") := by rw [hws, hk]; exact tok_at0
      have hat2 : ws[k + 1 + t.tok.length]? = some (Str.ofString "]") := by
        rw [hws, hk]
        have := tok_at (pre := pre ++ [Str.ofString "["]) (a := t.tok) (w := Str.ofString "]") (r := post)
        simpa [Tm.tok] using this
      walk_at "go"
      rw [if_neg (by omega)]
      refine ⟨p, dx, _, rfl, e, rfl, ?_⟩
      refine go_take e hat (by decide +kernel) (by decide +kernel) (.inl rfl) ?_
      walk_at "go"
      refine ⟨p, dx, _, rfl, gup_same, rfl, ?_⟩
      rw [el]
      refine hs n' rfl _ _ _ ⟨M, p, dx, ws, k + 1, l1, t, pre ++ [Str.ofString "["], Str.ofString "]" :: post, rfl, hM, hx, by omega, by omega, by omega, gup_same, by rw [hws]; simp [Tm.tok], by simp [hk], ?_⟩
      rw [gup_gup]
      walk_at "go"
      refine ⟨p, dx, _, rfl, gup_same, rfl, ?_⟩
      refine go_take gup_same hat2 (by decide +kernel) (by decide +kernel) (.inr rfl) ?_
      rw [gup_gup]
      walk_at "go"
      rw [show k + (Tm.load t).tok.length = k + 1 + t.tok.length + 1 by simp [Tm.tok]; omega] at h
      exact h
    | op o t u =>
      simp only [Tm.dep] at hd
      have ht := t.dep_pos
      obtain ⟨ho, hxt, hxu⟩ := hx
      have hwo := op_wd o ho
      obtain ⟨n1, n2, n3⟩ := wd_ne hwo
      obtain ⟨n', rfl⟩ : ∃ m, n = m + 1 := ⟨n - 1, by omega⟩
      have hat : ws[k]? = some (Str.ofString "(") := by rw [hws, hk]; exact tok_at0
      have hat2 : ws[k + 1 + t.tok.length]? = some o := by
        rw [hws, hk]
        have := tok_at (pre := pre ++ [Str.ofString "("]) (a := t.tok) (w := o) (r := u.tok ++ (Str.ofString ")" :: post))
        simpa [Tm.tok] using this
      have hat3 : ws[k + 1 + t.tok.length + 1 + u.tok.length]? = some (Str.ofString ")") := by
        rw [hws, hk]
        have := tok_at (pre := pre ++ Str.ofString "(" :: (t.tok ++ [o])) (a := u.tok) (w := Str.ofString ")") (r := post)
        rw [show (pre ++ Str.ofString "(" :: (t.tok ++ [o])).length = pre.length + 1 + t.tok.length + 1 by simp; omega] at this
        simpa [Tm.tok] using this
      walk_at "go"
      rw [if_neg (by omega)]
      refine ⟨p, dx, _, rfl, e, rfl, ?_⟩
      refine go_take e hat (by decide +kernel) (by decide +kernel) (.inl rfl) ?_
      walk_at "go"
      refine ⟨p, dx, _, rfl, gup_same, rfl, ?_⟩
      rw [el]
      refine hs n' rfl _ _ _ ⟨M, p, dx, ws, k + 1, l1, t, pre ++ [Str.ofString "("], o :: (u.tok ++ (Str.ofString ")" :: post)), rfl, hM, hxt, by omega, by omega, by omega, gup_same, by rw [hws]; simp [Tm.tok], by simp [hk], ?_⟩
      rw [gup_gup]
      walk_at "go"
      refine ⟨p, dx, _, rfl, gup_same, rfl, ?_⟩
      refine go_take gup_same hat2 n3 (wd_py hwo) (.inl rfl) ?_
      rw [gup_gup]
      walk_at "go"
      refine ⟨p, dx, _, rfl, gup_same, rfl, ?_⟩
      rw [el]
      refine hs n' rfl _ _ _ ⟨M, p, dx, ws, k + 1 + t.tok.length + 1, l1, u, pre ++ Str.ofString "(" :: (t.tok ++ [o]), Str.ofString ")" :: post, rfl, hM, hxu, by omega, by omega, by omega, gup_same, by rw [hws]; simp [Tm.tok], by simp [hk]; omega, ?_⟩
      rw [gup_gup]
      walk_at "go"
      refine ⟨p, dx, _, rfl, gup_same, rfl, ?_⟩
      refine go_take gup_same hat3 (by decide +kernel) (by decide +kernel) (.inr rfl) ?_
      rw [gup_gup]
      walk_at "go"
      rw [show k + (Tm.op o t u).tok.length = k + 1 + t.tok.length + 1 + u.tok.length + 1 by simp [Tm.tok]; omega] at h
      exact h
theorem ok_Reader_term_n {P : Program} {w : World} {K : PySem.W.Frag} {mg : Str → Option Value} {base : Heap} {a : Ad} (T : Tx w K mg a) : ∀ n : Nat, FnD P w K mg base (n + 3) a.f_Reader_term a.fd_Reader_term ["self", "left"] (sp_Reader_term a n)
  | 0 => ok0_Reader_term T (j := 0) fnd_never (by omega) (fun m e => by omega)
  | n + 1 => ok0_Reader_term T (ok_Reader_term_n T n) (by omega) (fun m e ds G R h => by
    have : n = m := by omega
    subst this
    exact h)
theorem ok_Reader_term {P : Program} {w : World} {K : PySem.W.Frag} {mg : Str → Option Value} {base : Heap} {a : Ad} (T : Tx w K mg a) : FnD P w K mg base 10 a.f_Reader_term a.fd_Reader_term ["self", "left"] (sp_Reader_term a 7) := ok_Reader_term_n T 7
theorem go_rterm {a : Ad} {M : Mach} {p dx : Addr} {ws : List Str} {k left : Nat} {x : Tm} {pre post : List Str} {G : Gp} {R : DK} (hM : M.ok) (hx : x.ok M) (hd : x.dep ≤ left) (hl : left ≤ 8) (e : G p = some (.ins a.c_Reader dx (rdF ws k))) (hws : ws = pre ++ (x.tok ++ post)) (hk : k = pre.length) (h : R x.d (gup G p (.ins a.c_Reader dx (rdF ws (k + x.tok.length))))) : sp_Reader_term a 7 [.ref p, .int (left : Nat)] G R := ⟨M, p, dx, ws, k, left, x, pre, post, rfl, hM, hx, hd, hl, by omega, e, hws, hk, h⟩
end K19


set_option Elab.async false
set_option linter.all false
set_option maxRecDepth 100000
set_option maxHeartbeats 4000000
set_option autoImplicit false
namespace K19
open PySem PySem.Spec PyProof.Rows L2 DL
local macro_rules | `(tactic| walk_at "d") => `(tactic| dsimp only [dSeq, dNext, dIfS, dRet, dRetN, dAsg, dName, dVar, dC, dOp, dUn, dChain, dB, dAnd, dOr, dNot, dAndV, dOrV, dNotV, dIf, dNil, dCons, dTup, dLst, newL, dCallB, dCall, dCallK, dDrop, dAug, dAugS, dSub, dM, dM0, dSlice, dNoPart, dPart, dLc, dYes, dFor, dIter, dRng1, dEnum, dZipM, srcD, dStar, dInK, dIxK, dLenSet, dRev,
  startD, wipeD, setAll, dNames, List.map_cons, List.map_nil, List.length_cons, List.length_nil, List.replicate, List.cons_append, List.nil_append, List.append_nil, List.getElem?_cons_zero, List.getElem?_cons_succ, List.set_cons_zero, List.set_cons_succ, List.map, Nat.zero_add, Nat.reduceAdd, Nat.reduceSub, Nat.sub_self, Nat.succ_sub_succ_eq_sub])
local macro_rules | `(tactic| walk_at "o") => `(tactic| simp only [dAdd_ii, dAdd_ss, dAdd_tt, dAdd_ll, dMinus_ii, dMul_ii, dMod_ii, dFdiv_ii, dPow_ii, dShl_ii, dNeg_i, dIadd_ii, dLt_ii, dLe_ii, dGt_ii, dGe_ii, dEq_ii, dNe_ii, dEq_ss, dNe_ss, dEq_bb, dNe_bb, dIs_n, dIsNot_n, dMax2_ii, dMin2_ii, dTuple_t, dTuple_l, dList_t, dList_l, dIx_t, dIx_l, dIx_s, dSl_t, dSl_l, dSl_s, newL_f, len_tup, len_lst])
local macro_rules | `(tactic| walk_at "w") => `(tactic| dsimp only [x_var, x_c, x_op, x_un, x_b, x_and, x_or, x_not, x_chain, x_andV, x_orV, x_notV, x_if, x_nil, x_cons, x_tup, x_lst0, x_lst1, x_callB, x_call, x_callK, x_next, x_seq, x_break, x_cont, x_drop, x_ret, x_ifS, x_asg, x_name, x_names, x_sub, x_aug, x_augS, x_for, x_lc0, x_lc1, x_yes, x_noPart, x_part, x_slice, x_iter, it_t, it_l, it_n, it_s, it_r, x_rng1, x_enum, x_rev, x_m, x_m0, x_mX, x_zip, x_star_t, x_star_l, x_lenSet, x_forgo0, x_lcgo0, x_while, x_par, x_sortK,
  br_t, br_f, isB_bl, isI_int, isN_some, slo_some, atL_lst, ix_t, ix_l, ix_n,
  dAdd_ii, dAdd_ss, dAdd_tt, dAdd_ll, dMinus_ii, dMul_ii, dMod_ii, dFdiv_ii, dPow_ii, dShl_ii, dNeg_i, dIadd_ii, dLt_ii, dLe_ii, dGt_ii, dGe_ii, ltE_ii, ltE_ss, srcD, isi_i, isi_s, isi_b, isi_n, isi_t, isi_nt, isi_l, isi2_i, isi2_s, isi2_b, isi2_n, isi2_t, isi2_nt, isi2_l, inon_n, inon_i, inon_s, inon_b, inon_t, inon_l, inon_r, dEq_ii, dNe_ii, dEq_ss, dNe_ss, dEq_bb, dNe_bb, dIs_n, dIsNot_n, dMax2_ii, dMin2_ii, dTuple_t, dTuple_l, dList_t, dList_l, dSl_t, dSl_l, dSl_s, newL_f, newL_t, app_r, int_b, int_i, strI_i, strX_i, strX_s,
  startD, wipeD, setAll, permL, List.filterMap, List.map_cons, List.map_nil, List.length_cons, List.length_nil, List.replicate, List.cons_append, List.nil_append, List.append_nil, List.getElem?_cons_zero, List.getElem?_cons_succ, List.set_cons_zero, List.set_cons_succ, List.map, Nat.zero_add, Nat.reduceAdd, Nat.reduceSub, Nat.sub_self, Nat.succ_sub_succ_eq_sub])
local macro_rules | `(tactic| walk_at "v") => `(tactic| simp only [ofString_inj, String.reduceEq, at_0, at_1, at_2, at_3, at_4, at_5, isN_some, isBB_bl, isB_bl, br_t, br_f, br_not, br_and, br_or, br_dec, ix_r, len_tup, len_lst, len_nt, ltE_key, gup_gup, gup_same, starD_one, cut1, cut2, kt1, kt2, kt3, kt4, kt5, kt6, isTy, String.reduceBEq, Bool.or_false, Bool.false_or, Bool.true_or, Bool.or_true, Bool.and_false, Bool.false_and, Bool.true_and, Bool.and_true, Bool.not_true, Bool.not_false, decide_true, decide_false, eq_self_iff_true, Bool.false_eq_true, Int.reduceAdd, Int.add_zero, if_true, if_false, true_and, and_true])
local macro_rules | `(tactic| walk_at "side") => `(tactic| first | with_reducible assumption | omega | exact mty_up | exact True.intro | (simp only [List.mem_cons, ofString_inj, String.reduceEq, true_or, or_true, List.length_map]; done) | with_reducible exact (rfl : (_ : Nat) = _) | exact (rfl : (_ : Option String) = _) | (refine small_line ?_; omega) | (walk_at "ll"; first | omega | (refine small_line ?_; omega) | fail) | (exact log_small (by omega)) | fail)
local macro_rules | `(tactic| walk_at "x") => `(tactic| fail)
local macro_rules | `(tactic| walk_at "go") => `(tactic| repeat' (first | dsimp only [x_var, x_c, x_op, x_un, x_b, x_and, x_or, x_not, x_chain, x_andV, x_orV, x_notV, x_if, x_nil, x_cons, x_tup, x_lst0, x_lst1, x_callB, x_call, x_callK, x_next, x_seq, x_break, x_cont, x_drop, x_ret, x_ifS, x_asg, x_name, x_names, x_sub, x_aug, x_augS, x_for, x_lc0, x_lc1, x_yes, x_noPart, x_part, x_slice, x_iter, it_t, it_l, it_n, it_s, it_r, x_rng1, x_enum, x_rev, x_m, x_m0, x_mX, x_zip, x_star_t, x_star_l, x_lenSet, x_forgo0, x_lcgo0, x_while, x_par, x_sortK, br_t, br_f, isB_bl, isI_int, isN_some, slo_some, atL_lst, ix_t, ix_l, ix_n, dAdd_ii, dAdd_ss, dAdd_tt, dAdd_ll, dMinus_ii, dMul_ii, dMod_ii, dFdiv_ii, dPow_ii, dShl_ii, dNeg_i, dIadd_ii, dLt_ii, dLe_ii, dGt_ii, dGe_ii, ltE_ii, ltE_ss, srcD, isi_i, isi_s, isi_b, isi_n, isi_t, isi_nt, isi_l, isi2_i, isi2_s, isi2_b, isi2_n, isi2_t, isi2_nt, isi2_l, inon_n, inon_i, inon_s, inon_b, inon_t, inon_l, inon_r, dEq_ii, dNe_ii, dEq_ss, dNe_ss, dEq_bb, dNe_bb, dIs_n, dIsNot_n, dMax2_ii, dMin2_ii, dTuple_t, dTuple_l, dList_t, dList_l, dSl_t, dSl_l, dSl_s, newL_f, newL_t, app_r, int_b, int_i, strI_i, strX_i, strX_s, startD, wipeD, setAll, permL, List.filterMap, List.map_cons, List.map_nil, List.length_cons, List.length_nil, List.replicate, List.cons_append, List.nil_append, List.append_nil, List.getElem?_cons_zero, List.getElem?_cons_succ, List.set_cons_zero, List.set_cons_succ, List.map, Nat.zero_add, Nat.reduceAdd, Nat.reduceSub, Nat.sub_self, Nat.succ_sub_succ_eq_sub] | simp only [ofString_inj, String.reduceEq, at_0, at_1, at_2, at_3, at_4, at_5, isN_some, isBB_bl, isB_bl, br_t, br_f, br_not, br_and, br_or, br_dec, ix_r, len_tup, len_lst, len_nt, ltE_key, gup_gup, gup_same, starD_one, cut1, cut2, kt1, kt2, kt3, kt4, kt5, kt6, isTy, String.reduceBEq, Bool.or_false, Bool.false_or, Bool.true_or, Bool.or_true, Bool.and_false, Bool.false_and, Bool.true_and, Bool.and_true, Bool.not_true, Bool.not_false, decide_true, decide_false, eq_self_iff_true, Bool.false_eq_true, Int.reduceAdd, Int.add_zero, if_true, if_false, true_and, and_true] | walk_at "x" | with_reducible refine kont_go ?_ | with_reducible refine rt_sub (by assumption) ?_ | with_reducible refine rt_lst (by assumption) ?_ | with_reducible refine rt_drop (by assumption) ?_ | with_reducible refine rt_keep (by assumption) (by assumption) ?_ | with_reducible refine rt_same ?_ | (refine fun (p : Addr) (_ : _ = none) => ?_) | refine join_gor gup_same rfl (by walk_at "side") ?_ | with_reducible refine lc_cons ?_ | with_reducible refine for_cons ?_ | refine join_go rfl (by walk_at "side") ?_ | refine And.intro (by first | with_reducible assumption | omega | exact mty_up | exact True.intro | (simp only [List.mem_cons, ofString_inj, String.reduceEq, true_or, or_true, List.length_map]; done) | with_reducible exact (rfl : (_ : Nat) = _) | exact (rfl : (_ : Option String) = _) | (refine small_line ?_; omega) | (walk_at "ll"; first | omega | (refine small_line ?_; omega) | fail) | (exact log_small (by omega)) | fail) ?_ | fail))
local macro_rules | `(tactic| walk_at "ll") => `(tactic| simp only [List.length_map, List.length_append, List.length_cons, List.length_nil, List.map_cons, List.map_nil, List.sum_cons, List.sum_nil, len_app, rng_length, ll_0, ll_1, ll_2, ll_3, ll_4, ll_5, ll_6, ll_7, ll_8, ll_9, ll_10, ll_11, ll_12, ll_13, ll_14, ll_15, ll_16, ll_17, ll_18, ll_19, ll_20, ll_21, ll_22, ll_23, ll_24, ll_25, ll_26, ll_27, ll_28, ll_29, ll_30, ll_31, ll_32, ll_33, ll_34, ll_35, ll_36, ll_37, ll_38, ll_39, ll_40, ll_41, ll_42, ll_43, ll_44, ll_45, ll_46, ll_47, ll_48, ll_49, ll_50, ll_51, ll_52, ll_53, ll_54])
/-! ### what is done, read -/
theorem semis_cons {a : List Str} {l : List (List Str)} (h : l ≠ []) : semis (a :: l) = a ++ (Str.ofString ";" :: semis l) := by
  cases l with
  | nil => exact absurd rfl h
  | cons b r => rfl
/-- a meaning ends here -/
def EndT (post : List Str) : Prop := post = [] ∨ ∃ r, post = Str.ofString "}" :: r
theorem endT_next {pre post : List Str} (h : EndT post) : ((pre ++ post)[pre.length]?).getD (Str.ofString "") ≠ Str.ofString ";" ∧ ((pre ++ post)[pre.length]?).getD (Str.ofString "") ≠ Str.ofString "=" := by
  rcases h with rfl | ⟨r, rfl⟩
  · rw [List.append_nil, List.getElem?_eq_none (Nat.le_refl _)]
    decide +kernel
  · rw [tok_at0]
    decide +kernel
theorem ne_wd {w : Str} (h : Wd w) : (w = Str.ofString "=") = False ∧ (w = Str.ofString ";") = False ∧ (w = Str.ofString "}") = False := by
  obtain ⟨h0, h1⟩ := h
  refine ⟨eq_false fun e => ?_, eq_false fun e => ?_, eq_false fun e => ?_⟩
  · have := h1 61 (by rw [e]; decide +kernel); revert this; decide
  · have := h1 59 (by rw [e]; decide +kernel); revert this; decide
  · have := h1 125 (by rw [e]; decide +kernel); revert this; decide
theorem nameW {M : Mach} (hM : M.ok) {z : Str} (h : z ∈ M.names) : Wd z := name_wd (hM.nm.1 z h)
def sp_Reader_done (a : Ad) : DSp := fun ds G R => ∃ (M : Mach) (p dx : Addr) (ws : List Str) (k left : Nat) (sets : List (Str × Tm)) (st : Option (Tm × Tm)) (pre post : List Str), ds = [.ref p, .int (left : Nat)] ∧ M.ok ∧ left ≤ 8 ∧ sets.length ≤ 6 ∧ (∀ q ∈ sets, q.1 ∈ M.names ∧ q.2.ok M ∧ q.2.dep ≤ left) ∧ (∀ q ∈ st, q.1.ok M ∧ q.1.dep ≤ left ∧ q.2.ok M ∧ q.2.dep ≤ left) ∧ (sets ≠ [] ∨ st ≠ none) ∧ EndT post ∧ G p = some (.ins a.c_Reader dx (rdF ws k)) ∧ ws = pre ++ (semis (sets.map setK ++ st.toList.map stK) ++ post) ∧ k = pre.length ∧ R (Mn.doo sets st).d (gup G p (.ins a.c_Reader dx (rdF ws (k + (semis (sets.map setK ++ st.toList.map stK)).length))))
local macro_rules | `(tactic| walk_at "x") => `(tactic| first | dsimp only [x_meth, x_meth0D] | fail)
theorem ok_Reader_done {P : Program} {w : World} {K : PySem.W.Frag} {mg : Str → Option Value} {base : Heap} {a : Ad} (T : Tx w K mg a) : FnD P w K mg base 11 a.f_Reader_done a.fd_Reader_done ["self", "left"] (sp_Reader_done a) := by
  refine fun_okD T.F_Reader_done sc_Reader_done (fun ds G R h => ?_) (fun cdv A outer s H hr => ⟨_, (qss_cons (qs_set (i := 2) sc_Reader_done.nd rfl (.inl rfl) (qe_lst true qa_nil))
      (qss_cons (qs_while PassesOwn.never (qt_cmp (od_ne hr.units) (qe_meth0D [.int 0] [.int 0] (rds_i 0) (qv 0) T.cl_Reader T.m_Reader_ahead (ok_Reader_ahead T) (hr.mono (by omega)) T.bd_Reader_ahead) qe_str (nomark _))
      (qss_cons (qs_set (i := 3) sc_Reader_done.nd rfl (.inl rfl) (qe_meth0D [.str ""] [.str ""] (rds_s "") (qv 0) T.cl_Reader T.m_Reader_take (ok_Reader_take T) (hr.mono (by omega)) T.bd_Reader_take))
      (qss_cons (qs_expr (qe_meth (qv 0) T.cl_Reader T.m_Reader_take (ok_Reader_take T) (hr.mono (by omega)) T.b_Reader_take (qa_cons qe_str qa_nil)))
      (qss_cons (qs_expr (qe_m PySem.F.plainAttrs_list PySem.F.slot_list_append PySem.F.type_list_append md_append (qv 2) (qa_cons (qe_tup (qa_cons (qv 3) (qa_cons (qe_meth (qv 0) T.cl_Reader T.m_Reader_term (ok_Reader_term T) (hr.mono (by omega)) T.b_Reader_term (qa_cons (qv 1) qa_nil)) qa_nil))) qa_nil)))
      (qss_cons (qs_if (qt_cmp (od_ne hr.units) (qe_meth0D [.int 0] [.int 0] (rds_i 0) (qv 0) T.cl_Reader T.m_Reader_ahead (ok_Reader_ahead T) (hr.mono (by omega)) T.bd_Reader_ahead) qe_str (nomark _))
      (qss_one (qs_ret (qe_tup (qa_cons qe_str (qa_cons (qe_callTy cd_tuple rfl T.n_tuple (by decide +kernel) (qa_cons (qv 2) qa_nil)) (qa_cons (qe_tup qa_nil) qa_nil))))))
      qss_nil)
      (qss_one (qs_expr (qe_meth0D [.str ""] [.str ""] (rds_s "") (qv 0) T.cl_Reader T.m_Reader_take (ok_Reader_take T) (hr.mono (by omega)) T.bd_Reader_take))))))))
      (qss_cons (qs_expr (qe_meth0D [.str ""] [.str ""] (rds_s "") (qv 0) T.cl_Reader T.m_Reader_take (ok_Reader_take T) (hr.mono (by omega)) T.bd_Reader_take))
      (qss_cons (qs_set (i := 4) sc_Reader_done.nd rfl (.inl rfl) (qe_meth (qv 0) T.cl_Reader T.m_Reader_term (ok_Reader_term T) (hr.mono (by omega)) T.b_Reader_term (qa_cons (qv 1) qa_nil)))
      (qss_cons (qs_expr (qe_meth (qv 0) T.cl_Reader T.m_Reader_take (ok_Reader_take T) (hr.mono (by omega)) T.b_Reader_take (qa_cons qe_str qa_nil)))
      (qss_cons (qs_expr (qe_meth (qv 0) T.cl_Reader T.m_Reader_take (ok_Reader_take T) (hr.mono (by omega)) T.b_Reader_take (qa_cons qe_str qa_nil)))
      (qss_one (qs_ret (qe_tup (qa_cons qe_str (qa_cons (qe_callTy cd_tuple rfl T.n_tuple (by decide +kernel) (qa_cons (qv 2) qa_nil)) (qa_cons (qe_tup (qa_cons (qe_tup (qa_cons (qv 4) (qa_cons (qe_meth (qv 0) T.cl_Reader T.m_Reader_term (ok_Reader_term T) (hr.mono (by omega)) T.b_Reader_term (qa_cons (qv 1) qa_nil)) qa_nil))) qa_nil)) qa_nil)))))))))))), fun ds G R h => ?_⟩)
  · obtain ⟨M, p, dx, ws, k, left, sets, st, pre, post, rfl, _⟩ := h; rfl
  · obtain ⟨M, p, dx, ws, k, left, sets, st, pre, post, rfl, hM, hl8, hs6, hsets, hst, hne, hend, e, hws, hk, h⟩ := h
    refine seq_cut (fun σ' G' => ∃ s, σ' = [some (.ref p), some (.int (left : Nat)), some (.ref s), none, none] ∧ p ≠ s ∧ G s = none ∧ Ext p G G' ∧ G' p = some (.ins a.c_Reader dx (rdF ws k)) ∧ G' s = some (.lst [])) ?_ (fun N1 hN1 => ?_)
    rotate_left
    · walk_at "go"
      rename_i s ns
      have hps : p ≠ s := fr_ne e ns
      exact hN1 _ _ ⟨s, rfl, hps, ns, (Ext.refl p G).new ns hps, by rw [gup_ne hps]; exact e, gup_same⟩
    rintro σ G1 ⟨s, rfl, hps, ns, hx1, e1, es1⟩
    refine seq_cut (fun σ' G' => ∃ (nm : Option D) (q : Tm × Tm) (pre' : List Str), σ' = [some (.ref p), some (.int (left : Nat)), some (.ref s), nm, none] ∧ st = some q ∧ ws = pre' ++ (stK q ++ post) ∧ pre'.length + (stK q).length = k + (semis (sets.map setK ++ st.toList.map stK)).length ∧ Ext p G G' ∧ G' p = some (.ins a.c_Reader dx (rdF ws pre'.length)) ∧ G' s = some (.lst (sets.map setD))) ?_ (fun N1 hN1 => ?_)
    rotate_left
    · rw [x_while]
      refine ⟨_, wh_go (fun m σ2 G2 => ∃ (nm : Option D) (dn rest : List (Str × Tm)) (pre' : List Str), σ2 = [some (.ref p), some (.int (left : Nat)), some (.ref s), nm, none] ∧ sets = dn ++ rest ∧ m = rest.length ∧ ws = pre' ++ (semis (rest.map setK ++ st.toList.map stK) ++ post) ∧ (rest ≠ [] ∨ st ≠ none) ∧ pre'.length + (semis (rest.map setK ++ st.toList.map stK)).length = k + (semis (sets.map setK ++ st.toList.map stK)).length ∧ Ext p G G2 ∧ G2 p = some (.ins a.c_Reader dx (rdF ws pre'.length)) ∧ G2 s = some (.lst (dn.map setD))) ?turn sets.length _ _ ⟨none, [], sets, pre, rfl, rfl, rfl, hws, hne, by rw [hk], hx1, by rw [← hk]; exact e1, es1⟩⟩
      rintro m σ2 G2 ⟨nm, dn, rest, pre', rfl, hsp, rfl, hws2, hne2, hlen, hx2, e2, es2⟩ N2 hN2
      cases rest with
      | nil =>
        obtain ⟨q, hq⟩ : ∃ q, st = some q := by
          cases st with
          | none => exact (hne2.elim (fun h => h rfl) (fun h => h rfl)).elim
          | some q => exact ⟨q, rfl⟩
        have e3 : semis (([] : List (Str × Tm)).map setK ++ st.toList.map stK) = stK q := by rw [hq]; rfl
        rw [e3] at hws2 hlen
        have hat : ws[pre'.length + 0]? = some (Str.ofString "[") := by rw [Nat.add_zero, hws2]; exact tok_at0
        walk_at "go"
        refine ⟨p, dx, _, rfl, e2, rfl, ?_⟩
        refine go_ahead (many := 0) e2 ?_
        rw [hat]
        dsimp only [Option.getD_some]
        walk_at "go"
        rw [List.append_nil] at hsp
        rw [← hsp] at es2
        exact hN1 _ _ ⟨nm, q, pre', rfl, hq, hws2, hlen, hx2, e2, es2⟩
      | cons q rest =>
        obtain ⟨hq1, hq2, hq3⟩ := hsets q (by rw [hsp]; simp)
        have hwq := nameW hM hq1
        obtain ⟨n1, n2, n3⟩ := wd_ne hwq
        obtain ⟨tl, htl, e4⟩ : ∃ tl, (tl = [] ∧ rest = [] ∧ st = none ∨ tl = Str.ofString ";" :: semis (rest.map setK ++ st.toList.map stK) ∧ (rest ≠ [] ∨ st ≠ none)) ∧ semis ((q :: rest).map setK ++ st.toList.map stK) = setK q ++ tl := by
          by_cases c : rest.map setK ++ st.toList.map stK = []
          · obtain ⟨c1, c2⟩ := List.append_eq_nil_iff.mp c
            have c1 : rest = [] := by simpa using c1
            have c2 : st = none := by simpa using c2
            refine ⟨[], .inl ⟨rfl, c1, c2⟩, ?_⟩
            rw [c1, c2]
            simp [semis]
          · refine ⟨_, .inr ⟨rfl, ?_⟩, by rw [List.map_cons, List.cons_append, semis_cons c]⟩
            by_cases c1 : rest = []
            · refine .inr fun c2 => c ?_
              rw [c1, c2]
              rfl
            · exact .inl c1
        rw [e4] at hws2 hlen
        have hws3 : ws = pre' ++ (q.1 :: Str.ofString "=" :: (q.2.tok ++ (tl ++ post))) := by rw [hws2]; simp [setK]
        have hat : ws[pre'.length]? = some q.1 := by rw [hws3]; exact tok_at0
        have hat1 : ws[pre'.length + 1]? = some (Str.ofString "=") := by
          have := tok_at (pre := pre') (a := [q.1]) (w := Str.ofString "=") (r := q.2.tok ++ (tl ++ post))
          rw [hws3]; simpa using this
        walk_at "go"
        refine ⟨p, dx, _, rfl, e2, rfl, ?_⟩
        refine go_ahead (many := 0) e2 ?_
        rw [Nat.add_zero, hat]
        dsimp only [Option.getD_some]
        walk_at "go"
        rw [decide_eq_false (show ¬ (q.1 = Str.ofString "[") by rw [n1]; exact id)]
        refine ⟨p, dx, _, rfl, e2, rfl, ?_⟩
        refine go_take e2 hat n3 (wd_py hwq) (.inl rfl) ?_
        walk_at "go"
        refine ⟨p, dx, _, rfl, gup_same, rfl, ?_⟩
        refine go_take gup_same hat1 (by decide +kernel) (by decide +kernel) (.inr rfl) ?_
        rw [gup_gup]
        have es3 : gup G2 p (.ins a.c_Reader dx (rdF ws (pre'.length + 1 + 1))) s = some (.lst (dn.map setD)) := by rw [gup_ne hps.symm]; exact es2
        walk_at "go"
        refine ⟨mty_at es3, ?_⟩
        refine ⟨p, dx, _, rfl, gup_same, rfl, ?_⟩
        refine go_rterm hM hq2 hq3 hl8 gup_same (pre := pre' ++ [q.1, Str.ofString "="]) (post := tl ++ post) (by rw [hws3]; simp) (by simp) ?_
        rw [gup_gup]
        have es4 : ∀ n, gup G2 p (.ins a.c_Reader dx (rdF ws n)) s = some (.lst (dn.map setD)) := fun n => by rw [gup_ne hps.symm]; exact es2
        walk_at "go"
        rw [atL_at (es4 _)]
        have hdl : dn.length + (rest.length + 1) = sets.length := by rw [hsp, List.length_append, List.length_cons]
        refine ⟨by rw [List.length_map, sizeLine_eq]; omega, ?_⟩
        have ex : (pre' ++ [q.1, Str.ofString "="]).length = pre'.length + 1 + 1 := by simp
        generalize hkk : pre'.length + 1 + 1 + q.2.tok.length = kk
        have e5 : gup (gup G2 p (.ins a.c_Reader dx (rdF ws kk))) s (.lst (dn.map setD ++ [.tup [.str q.1, q.2.d]])) p = some (.ins a.c_Reader dx (rdF ws kk)) := by rw [gup_ne hps]; exact gup_same
        have hx5 : Ext p G (gup (gup G2 p (.ins a.c_Reader dx (rdF ws kk))) s (.lst (dn.map setD ++ [.tup [.str q.1, q.2.d]]))) := hx2.self.put ns
        have es5 : gup (gup G2 p (.ins a.c_Reader dx (rdF ws kk))) s (.lst (dn.map setD ++ [.tup [.str q.1, q.2.d]])) s = some (.lst ((dn ++ [q]).map setD)) := by rw [gup_same, List.map_append]; rfl
        generalize gup (gup G2 p (.ins a.c_Reader dx (rdF ws kk))) s (.lst (dn.map setD ++ [.tup [.str q.1, q.2.d]])) = G5 at e5 hx5 es5
        walk_at "go"
        refine ⟨p, dx, _, rfl, e5, rfl, ?_⟩
        refine go_ahead (many := 0) e5 ?_
        rw [Nat.add_zero]
        have hkl : kk = (pre' ++ setK q).length := by rw [← hkk]; simp [setK]; omega
        rcases htl with ⟨rfl, rfl, rfl⟩ | ⟨rfl, hne3⟩
        · have hnx := (endT_next (pre := pre' ++ setK q) hend).1
          have hws4 : ws = (pre' ++ setK q) ++ post := by rw [hws3]; simp [setK]
          rw [← hkl, ← hws4] at hnx
          generalize (ws[kk]?).getD (Str.ofString "") = nx at hnx
          walk_at "go"
          rw [if_neg hnx, tuple_r es5, ← hsp]
          refine ⟨small_line (by decide), small_line (by decide), ?_⟩
          have hkf : k + (semis (sets.map setK ++ (none : Option (Tm × Tm)).toList.map stK)).length = kk := by rw [← hlen, hkl]; simp
          rw [hkf] at h
          exact rt_ext hx5 e5 h
        · have hws4 : ws = (pre' ++ setK q) ++ (Str.ofString ";" :: (semis (rest.map setK ++ st.toList.map stK) ++ post)) := by rw [hws3]; simp [setK]
          have hat4 : ws[kk]? = some (Str.ofString ";") := by rw [hkl, hws4]; exact tok_at0
          rw [hat4]
          dsimp only [Option.getD_some]
          walk_at "go"
          refine ⟨p, dx, _, rfl, e5, rfl, ?_⟩
          refine go_take e5 hat4 (by decide +kernel) (by decide +kernel) (.inl rfl) ?_
          walk_at "go"
          have hk7 : (pre' ++ setK q ++ [Str.ofString ";"]).length = kk + 1 := by rw [List.length_append, ← hkl]; rfl
          refine hN2 rest.length _ _ rfl ⟨_, dn ++ [q], rest, pre' ++ setK q ++ [Str.ofString ";"], rfl, by rw [hsp]; simp, rfl, by rw [hws4]; simp, hne3, ?_, hx5.self, by rw [hk7]; exact gup_same, by rw [gup_ne hps.symm]; exact es5⟩
          rw [← hlen, hk7, hkl]
          simp only [List.length_append, List.length_cons]
          omega
    rintro σ2 G2 ⟨nm, q, pre', rfl, rfl, hws2, hlen, hx2, e2, es2⟩
    obtain ⟨hq1, hq2, hq3, hq4⟩ := hst q rfl
    have hws3 : ws = pre' ++ (Str.ofString "[" :: (q.1.tok ++ (Str.ofString "]" :: Str.ofString "=" :: (q.2.tok ++ post)))) := by rw [hws2]; simp [stK]
    have hat : ws[pre'.length]? = some (Str.ofString "[") := by rw [hws3]; exact tok_at0
    have hat2 : ws[pre'.length + 1 + q.1.tok.length]? = some (Str.ofString "]") := by
      have := tok_at (pre := pre' ++ [Str.ofString "["]) (a := q.1.tok) (w := Str.ofString "]") (r := Str.ofString "=" :: (q.2.tok ++ post))
      rw [hws3]; simpa using this
    have hat3 : ws[pre'.length + 1 + q.1.tok.length + 1]? = some (Str.ofString "=") := by
      have := tok_at (pre := pre' ++ Str.ofString "[" :: q.1.tok) (a := [Str.ofString "]"]) (w := Str.ofString "=") (r := q.2.tok ++ post)
      rw [show (pre' ++ Str.ofString "[" :: q.1.tok).length + [Str.ofString "]"].length = pre'.length + 1 + q.1.tok.length + 1 by simp; omega] at this
      rw [hws3]; simpa using this
    have es3 : ∀ n, gup G2 p (.ins a.c_Reader dx (rdF ws n)) s = some (.lst (sets.map setD)) := fun n => by rw [gup_ne hps.symm]; exact es2
    walk_at "go"
    refine ⟨p, dx, _, rfl, e2, rfl, ?_⟩
    refine go_take e2 hat (by decide +kernel) (by decide +kernel) (.inl rfl) ?_
    walk_at "go"
    refine ⟨p, dx, _, rfl, gup_same, rfl, ?_⟩
    refine go_rterm hM hq1 hq2 hl8 gup_same (pre := pre' ++ [Str.ofString "["]) (post := Str.ofString "]" :: Str.ofString "=" :: (q.2.tok ++ post)) (by rw [hws3]; simp) (by simp) ?_
    rw [gup_gup]
    walk_at "go"
    refine ⟨p, dx, _, rfl, gup_same, rfl, ?_⟩
    refine go_take gup_same hat2 (by decide +kernel) (by decide +kernel) (.inr rfl) ?_
    rw [gup_gup]
    walk_at "go"
    refine ⟨p, dx, _, rfl, gup_same, rfl, ?_⟩
    refine go_take gup_same hat3 (by decide +kernel) (by decide +kernel) (.inr rfl) ?_
    rw [gup_gup]
    walk_at "go"
    rw [tuple_r (es3 _)]
    refine ⟨p, dx, _, rfl, gup_same, rfl, ?_⟩
    refine go_rterm hM hq3 hq4 hl8 gup_same (pre := pre' ++ Str.ofString "[" :: (q.1.tok ++ [Str.ofString "]", Str.ofString "="])) (post := post) (by rw [hws3]; simp) (by simp; omega) ?_
    rw [gup_gup]
    refine ⟨small_line (by decide), small_line (by decide), small_line (by decide), ?_⟩
    rw [← hlen, show pre'.length + (stK q).length = pre'.length + 1 + q.1.tok.length + 1 + 1 + q.2.tok.length by simp [stK]; omega] at h
    exact rt_ext hx2.self gup_same h
theorem go_done {a : Ad} {M : Mach} {p dx : Addr} {ws : List Str} {k left : Nat} {sets : List (Str × Tm)} {st : Option (Tm × Tm)} {pre post : List Str} {G : Gp} {R : DK} (hM : M.ok) (hl : left ≤ 8) (h6 : sets.length ≤ 6) (hs : ∀ q ∈ sets, q.1 ∈ M.names ∧ q.2.ok M ∧ q.2.dep ≤ left) (ht : ∀ q ∈ st, q.1.ok M ∧ q.1.dep ≤ left ∧ q.2.ok M ∧ q.2.dep ≤ left) (hne : sets ≠ [] ∨ st ≠ none) (hend : EndT post) (e : G p = some (.ins a.c_Reader dx (rdF ws k))) (hws : ws = pre ++ (semis (sets.map setK ++ st.toList.map stK) ++ post)) (hk : k = pre.length) (h : R (Mn.doo sets st).d (gup G p (.ins a.c_Reader dx (rdF ws (k + (semis (sets.map setK ++ st.toList.map stK)).length))))) : sp_Reader_done a [.ref p, .int (left : Nat)] G R := ⟨M, p, dx, ws, k, left, sets, st, pre, post, rfl, hM, hl, h6, hs, ht, hne, hend, e, hws, hk, h⟩
end K19


set_option Elab.async false
set_option linter.all false
set_option maxRecDepth 100000
set_option maxHeartbeats 4000000
set_option autoImplicit false
namespace K19
open PySem PySem.Spec PyProof.Rows L2 DL
local macro_rules | `(tactic| walk_at "d") => `(tactic| dsimp only [dSeq, dNext, dIfS, dRet, dRetN, dAsg, dName, dVar, dC, dOp, dUn, dChain, dB, dAnd, dOr, dNot, dAndV, dOrV, dNotV, dIf, dNil, dCons, dTup, dLst, newL, dCallB, dCall, dCallK, dDrop, dAug, dAugS, dSub, dM, dM0, dSlice, dNoPart, dPart, dLc, dYes, dFor, dIter, dRng1, dEnum, dZipM, srcD, dStar, dInK, dIxK, dLenSet, dRev,
  startD, wipeD, setAll, dNames, List.map_cons, List.map_nil, List.length_cons, List.length_nil, List.replicate, List.cons_append, List.nil_append, List.append_nil, List.getElem?_cons_zero, List.getElem?_cons_succ, List.set_cons_zero, List.set_cons_succ, List.map, Nat.zero_add, Nat.reduceAdd, Nat.reduceSub, Nat.sub_self, Nat.succ_sub_succ_eq_sub])
local macro_rules | `(tactic| walk_at "o") => `(tactic| simp only [dAdd_ii, dAdd_ss, dAdd_tt, dAdd_ll, dMinus_ii, dMul_ii, dMod_ii, dFdiv_ii, dPow_ii, dShl_ii, dNeg_i, dIadd_ii, dLt_ii, dLe_ii, dGt_ii, dGe_ii, dEq_ii, dNe_ii, dEq_ss, dNe_ss, dEq_bb, dNe_bb, dIs_n, dIsNot_n, dMax2_ii, dMin2_ii, dTuple_t, dTuple_l, dList_t, dList_l, dIx_t, dIx_l, dIx_s, dSl_t, dSl_l, dSl_s, newL_f, len_tup, len_lst])
local macro_rules | `(tactic| walk_at "w") => `(tactic| dsimp only [x_var, x_c, x_op, x_un, x_b, x_and, x_or, x_not, x_chain, x_andV, x_orV, x_notV, x_if, x_nil, x_cons, x_tup, x_lst0, x_lst1, x_callB, x_call, x_callK, x_next, x_seq, x_break, x_cont, x_drop, x_ret, x_ifS, x_asg, x_name, x_names, x_sub, x_aug, x_augS, x_for, x_lc0, x_lc1, x_yes, x_noPart, x_part, x_slice, x_iter, it_t, it_l, it_n, it_s, it_r, x_rng1, x_enum, x_rev, x_m, x_m0, x_mX, x_zip, x_star_t, x_star_l, x_lenSet, x_forgo0, x_lcgo0, x_while, x_par, x_sortK,
  br_t, br_f, isB_bl, isI_int, isN_some, slo_some, atL_lst, ix_t, ix_l, ix_n,
  dAdd_ii, dAdd_ss, dAdd_tt, dAdd_ll, dMinus_ii, dMul_ii, dMod_ii, dFdiv_ii, dPow_ii, dShl_ii, dNeg_i, dIadd_ii, dLt_ii, dLe_ii, dGt_ii, dGe_ii, ltE_ii, ltE_ss, srcD, isi_i, isi_s, isi_b, isi_n, isi_t, isi_nt, isi_l, isi2_i, isi2_s, isi2_b, isi2_n, isi2_t, isi2_nt, isi2_l, inon_n, inon_i, inon_s, inon_b, inon_t, inon_l, inon_r, dEq_ii, dNe_ii, dEq_ss, dNe_ss, dEq_bb, dNe_bb, dIs_n, dIsNot_n, dMax2_ii, dMin2_ii, dTuple_t, dTuple_l, dList_t, dList_l, dSl_t, dSl_l, dSl_s, newL_f, newL_t, app_r, int_b, int_i, strI_i, strX_i, strX_s,
  startD, wipeD, setAll, permL, List.filterMap, List.map_cons, List.map_nil, List.length_cons, List.length_nil, List.replicate, List.cons_append, List.nil_append, List.append_nil, List.getElem?_cons_zero, List.getElem?_cons_succ, List.set_cons_zero, List.set_cons_succ, List.map, Nat.zero_add, Nat.reduceAdd, Nat.reduceSub, Nat.sub_self, Nat.succ_sub_succ_eq_sub])
local macro_rules | `(tactic| walk_at "v") => `(tactic| simp only [ofString_inj, String.reduceEq, at_0, at_1, at_2, at_3, at_4, at_5, isN_some, isBB_bl, isB_bl, br_t, br_f, br_not, br_and, br_or, br_dec, ix_r, len_tup, len_lst, len_nt, ltE_key, gup_gup, gup_same, starD_one, cut1, cut2, kt1, kt2, kt3, kt4, kt5, kt6, isTy, String.reduceBEq, Bool.or_false, Bool.false_or, Bool.true_or, Bool.or_true, Bool.and_false, Bool.false_and, Bool.true_and, Bool.and_true, Bool.not_true, Bool.not_false, decide_true, decide_false, eq_self_iff_true, Bool.false_eq_true, Int.reduceAdd, Int.add_zero, if_true, if_false, true_and, and_true])
local macro_rules | `(tactic| walk_at "side") => `(tactic| first | with_reducible assumption | omega | exact mty_up | exact True.intro | (simp only [List.mem_cons, ofString_inj, String.reduceEq, true_or, or_true, List.length_map]; done) | with_reducible exact (rfl : (_ : Nat) = _) | exact (rfl : (_ : Option String) = _) | (refine small_line ?_; omega) | (walk_at "ll"; first | omega | (refine small_line ?_; omega) | fail) | (exact log_small (by omega)) | fail)
local macro_rules | `(tactic| walk_at "x") => `(tactic| fail)
local macro_rules | `(tactic| walk_at "go") => `(tactic| repeat' (first | dsimp only [x_var, x_c, x_op, x_un, x_b, x_and, x_or, x_not, x_chain, x_andV, x_orV, x_notV, x_if, x_nil, x_cons, x_tup, x_lst0, x_lst1, x_callB, x_call, x_callK, x_next, x_seq, x_break, x_cont, x_drop, x_ret, x_ifS, x_asg, x_name, x_names, x_sub, x_aug, x_augS, x_for, x_lc0, x_lc1, x_yes, x_noPart, x_part, x_slice, x_iter, it_t, it_l, it_n, it_s, it_r, x_rng1, x_enum, x_rev, x_m, x_m0, x_mX, x_zip, x_star_t, x_star_l, x_lenSet, x_forgo0, x_lcgo0, x_while, x_par, x_sortK, br_t, br_f, isB_bl, isI_int, isN_some, slo_some, atL_lst, ix_t, ix_l, ix_n, dAdd_ii, dAdd_ss, dAdd_tt, dAdd_ll, dMinus_ii, dMul_ii, dMod_ii, dFdiv_ii, dPow_ii, dShl_ii, dNeg_i, dIadd_ii, dLt_ii, dLe_ii, dGt_ii, dGe_ii, ltE_ii, ltE_ss, srcD, isi_i, isi_s, isi_b, isi_n, isi_t, isi_nt, isi_l, isi2_i, isi2_s, isi2_b, isi2_n, isi2_t, isi2_nt, isi2_l, inon_n, inon_i, inon_s, inon_b, inon_t, inon_l, inon_r, dEq_ii, dNe_ii, dEq_ss, dNe_ss, dEq_bb, dNe_bb, dIs_n, dIsNot_n, dMax2_ii, dMin2_ii, dTuple_t, dTuple_l, dList_t, dList_l, dSl_t, dSl_l, dSl_s, newL_f, newL_t, app_r, int_b, int_i, strI_i, strX_i, strX_s, startD, wipeD, setAll, permL, List.filterMap, List.map_cons, List.map_nil, List.length_cons, List.length_nil, List.replicate, List.cons_append, List.nil_append, List.append_nil, List.getElem?_cons_zero, List.getElem?_cons_succ, List.set_cons_zero, List.set_cons_succ, List.map, Nat.zero_add, Nat.reduceAdd, Nat.reduceSub, Nat.sub_self, Nat.succ_sub_succ_eq_sub] | simp only [ofString_inj, String.reduceEq, at_0, at_1, at_2, at_3, at_4, at_5, isN_some, isBB_bl, isB_bl, br_t, br_f, br_not, br_and, br_or, br_dec, ix_r, len_tup, len_lst, len_nt, ltE_key, gup_gup, gup_same, starD_one, cut1, cut2, kt1, kt2, kt3, kt4, kt5, kt6, isTy, String.reduceBEq, Bool.or_false, Bool.false_or, Bool.true_or, Bool.or_true, Bool.and_false, Bool.false_and, Bool.true_and, Bool.and_true, Bool.not_true, Bool.not_false, decide_true, decide_false, eq_self_iff_true, Bool.false_eq_true, Int.reduceAdd, Int.add_zero, if_true, if_false, true_and, and_true] | walk_at "x" | with_reducible refine kont_go ?_ | with_reducible refine rt_sub (by assumption) ?_ | with_reducible refine rt_lst (by assumption) ?_ | with_reducible refine rt_drop (by assumption) ?_ | with_reducible refine rt_keep (by assumption) (by assumption) ?_ | with_reducible refine rt_same ?_ | (refine fun (p : Addr) (_ : _ = none) => ?_) | refine join_gor gup_same rfl (by walk_at "side") ?_ | with_reducible refine lc_cons ?_ | with_reducible refine for_cons ?_ | refine join_go rfl (by walk_at "side") ?_ | refine And.intro (by first | with_reducible assumption | omega | exact mty_up | exact True.intro | (simp only [List.mem_cons, ofString_inj, String.reduceEq, true_or, or_true, List.length_map]; done) | with_reducible exact (rfl : (_ : Nat) = _) | exact (rfl : (_ : Option String) = _) | (refine small_line ?_; omega) | (walk_at "ll"; first | omega | (refine small_line ?_; omega) | fail) | (exact log_small (by omega)) | fail) ?_ | fail))
local macro_rules | `(tactic| walk_at "ll") => `(tactic| simp only [List.length_map, List.length_append, List.length_cons, List.length_nil, List.map_cons, List.map_nil, List.sum_cons, List.sum_nil, len_app, rng_length, ll_0, ll_1, ll_2, ll_3, ll_4, ll_5, ll_6, ll_7, ll_8, ll_9, ll_10, ll_11, ll_12, ll_13, ll_14, ll_15, ll_16, ll_17, ll_18, ll_19, ll_20, ll_21, ll_22, ll_23, ll_24, ll_25, ll_26, ll_27, ll_28, ll_29, ll_30, ll_31, ll_32, ll_33, ll_34, ll_35, ll_36, ll_37, ll_38, ll_39, ll_40, ll_41, ll_42, ll_43, ll_44, ll_45, ll_46, ll_47, ll_48, ll_49, ll_50, ll_51, ll_52, ll_53, ll_54])
/-! ### meanings read -/
theorem ah_go {a : Ad} {p dx : Addr} {ws : List Str} {k many : Nat} {w : Str} {G : Gp} {R : DK} (e : G p = some (.ins a.c_Reader dx (rdF ws k))) (hw : (ws[k + many]?).getD (Str.ofString "") = w) (h : R (.str w) G) : ∃ a1 dx1 fs, D.ref p = .ref a1 ∧ G a1 = some (.ins a.c_Reader dx1 fs) ∧ List.lookup (Str.ofString "ahead") fs = none ∧ sp_Reader_ahead a [.ref p, .int (many : Nat)] G R := ⟨p, dx, _, rfl, e, rfl, go_ahead e (by rw [show ((ws[k + many]?).getD "") = w from hw]; exact h)⟩
theorem tk_go {a : Ad} {p dx : Addr} {ws : List Str} {k : Nat} {due w : Str} {G : Gp} {R : DK} (e : G p = some (.ins a.c_Reader dx (rdF ws k))) (hw : ws[k]? = some w) (hn : w ≠ "") (hp : pyD (.str w) = true) (hd : due = "" ∨ due = w) (h : R (.str w) (gup G p (.ins a.c_Reader dx (rdF ws (k + 1))))) : ∃ a1 dx1 fs, D.ref p = .ref a1 ∧ G a1 = some (.ins a.c_Reader dx1 fs) ∧ List.lookup (Str.ofString "take") fs = none ∧ sp_Reader_take a [.ref p, .str due] G R := ⟨p, dx, _, rfl, e, rfl, go_take e hw hn hp hd h⟩
theorem tm_go {a : Ad} {M : Mach} {p dx : Addr} {ws : List Str} {k left : Nat} {x : Tm} {pre post : List Str} {G : Gp} {R : DK} (hM : M.ok) (hx : x.ok M) (hd : x.dep ≤ left) (hl : left ≤ 8) (e : G p = some (.ins a.c_Reader dx (rdF ws k))) (hws : ws = pre ++ (x.tok ++ post)) (hk : k = pre.length) (h : R x.d (gup G p (.ins a.c_Reader dx (rdF ws (k + x.tok.length))))) : ∃ a1 dx1 fs, D.ref p = .ref a1 ∧ G a1 = some (.ins a.c_Reader dx1 fs) ∧ List.lookup (Str.ofString "term") fs = none ∧ sp_Reader_term a 7 [.ref p, .int (left : Nat)] G R := ⟨p, dx, _, rfl, e, rfl, go_rterm hM hx hd hl e hws hk h⟩
theorem tm_head {M : Mach} (hM : M.ok) : ∀ {x : Tm}, x.ok M → ∃ w r, x.tok = w :: r ∧ w ≠ Str.ofString "="
  | .num w, h => by
    have htop := top_le hM.b1 hM.b2
    have h : (w : Int) < 2 ^ M.b.toNat := h
    exact ⟨_, _, rfl, fun e => by have := (ne_wd (num_wd (k := w) (by omega))).1; rw [this] at e; exact e⟩
  | .reg x, h => ⟨_, _, rfl, fun e => by have := (ne_wd (nameW hM h)).1; rw [this] at e; exact e⟩
  | .load t, _ => ⟨_, _, rfl, by decide +kernel⟩
  | .op o t u, _ => ⟨_, _, rfl, by decide +kernel⟩
theorem setsL_mem {sets : List (Str × Tm)} {p : Str × Tm} (h : p ∈ sets) : p.2.dep ≤ setsL sets := by
  induction sets with
  | nil => cases h
  | cons q r ih =>
    simp only [setsL, List.foldr_cons] at ih ⊢
    rcases List.mem_cons.mp h with rfl | h
    · omega
    · have := ih h; omega
def sp_Reader_meaning (a : Ad) (n : Nat) : DSp := fun ds G R => ∃ (M : Mach) (p dx : Addr) (ws : List Str) (k left : Nat) (m : Mn) (pre post : List Str), ds = [.ref p, .int (left : Nat)] ∧ M.ok ∧ m.ok M ∧ m.lvl ≤ left ∧ left ≤ n + 1 ∧ n ≤ 7 ∧ EndT post ∧ G p = some (.ins a.c_Reader dx (rdF ws k)) ∧ ws = pre ++ (m.tok ++ post) ∧ k = pre.length ∧ R m.d (gup G p (.ins a.c_Reader dx (rdF ws (k + m.tok.length))))
def sp_Reader_way (a : Ad) (n : Nat) : DSp := fun ds G R => ∃ (M : Mach) (p dx : Addr) (ws : List Str) (k left : Nat) (word : Str) (m : Mn) (pre post : List Str), ds = [.ref p, .str word, .int (left : Nat)] ∧ Wd word ∧ M.ok ∧ m.ok M ∧ m.lvl ≤ left ∧ left ≤ n + 1 ∧ n ≤ 7 ∧ G p = some (.ins a.c_Reader dx (rdF ws k)) ∧ ws = pre ++ (word :: Str.ofString "{" :: (m.tok ++ (Str.ofString "}" :: post))) ∧ k = pre.length ∧ R m.d (gup G p (.ins a.c_Reader dx (rdF ws (k + 2 + m.tok.length + 1))))
local macro_rules | `(tactic| walk_at "x") => `(tactic| first | dsimp only [x_meth, x_meth0D] | fail)
theorem ok0_Reader_way {P : Program} {w : World} {K : PySem.W.Frag} {mg : Str → Option Value} {base : Heap} {a : Ad} (T : Tx w K mg a) {n j : Nat} {spm : DSp} (ihm : FnD P w K mg base j a.f_Reader_meaning a.fd_Reader_meaning ["self", "left"] spm) (hj : j ≤ 2 * n + 12) (hs : ∀ ds G R, sp_Reader_meaning a n ds G R → spm ds G R) : FnD P w K mg base (2 * n + 12 + 1) a.f_Reader_way a.fd_Reader_way ["self", "word", "left"] (sp_Reader_way a n) := by
  refine fun_okD T.F_Reader_way sc_Reader_way (fun ds G R h => ?_) (fun cdv A outer s H hr => ⟨_, (qss_cons (qs_expr (qe_meth (qv 0) T.cl_Reader T.m_Reader_take (ok_Reader_take T) (hr.mono (by omega)) T.b_Reader_take (qa_cons (qv 1) qa_nil)))
      (qss_cons (qs_expr (qe_meth (qv 0) T.cl_Reader T.m_Reader_take (ok_Reader_take T) (hr.mono (by omega)) T.b_Reader_take (qa_cons qe_str qa_nil)))
      (qss_cons (qs_set (i := 3) sc_Reader_way.nd rfl (.inl rfl) (qe_meth (qv 0) T.cl_Reader T.m_Reader_meaning ihm (hr.mono (by omega)) T.b_Reader_meaning (qa_cons (qv 2) qa_nil)))
      (qss_cons (qs_expr (qe_meth (qv 0) T.cl_Reader T.m_Reader_take (ok_Reader_take T) (hr.mono (by omega)) T.b_Reader_take (qa_cons qe_str qa_nil)))
      (qss_one (qs_ret (qv 3))))))), fun ds G R h => ?_⟩)
  · obtain ⟨M, p, dx, ws, k, left, word, m, pre, post, rfl, _⟩ := h; rfl
  · obtain ⟨M, p, dx, ws, k, left, word, m, pre, post, rfl, hwd, hM, hm, hlv, hl, hn7, e, hws, hk, h⟩ := h
    have hat : ws[k]? = some word := by rw [hws, hk]; exact tok_at0
    have hat1 : ws[k + 1]? = some (Str.ofString "{") := by
      have := tok_at (pre := pre) (a := [word]) (w := Str.ofString "{") (r := m.tok ++ (Str.ofString "}" :: post))
      rw [hws, hk]; simpa using this
    have hat2 : ws[k + 1 + 1 + m.tok.length]? = some (Str.ofString "}") := by
      have := tok_at (pre := pre ++ [word, Str.ofString "{"]) (a := m.tok) (w := Str.ofString "}") (r := post)
      rw [hws, hk]; simpa using this
    walk_at "go"
    refine tk_go e hat (wd_ne hwd).2.2 (wd_py hwd) (.inr rfl) ?_
    walk_at "go"
    refine tk_go gup_same hat1 (by decide +kernel) (by decide +kernel) (.inr rfl) ?_
    rw [gup_gup]
    walk_at "go"
    refine ⟨p, dx, _, rfl, gup_same, rfl, ?_⟩
    refine hs _ _ _ ⟨M, p, dx, ws, k + 1 + 1, left, m, pre ++ [word, Str.ofString "{"], Str.ofString "}" :: post, rfl, hM, hm, hlv, hl, hn7, .inr ⟨_, rfl⟩, gup_same, by rw [hws]; simp, by simp [hk], ?_⟩
    rw [gup_gup]
    walk_at "go"
    refine tk_go gup_same hat2 (by decide +kernel) (by decide +kernel) (.inr rfl) ?_
    rw [gup_gup]
    walk_at "go"
    exact h
theorem ok0_Reader_meaning {P : Program} {w : World} {K : PySem.W.Frag} {mg : Str → Option Value} {base : Heap} {a : Ad} (T : Tx w K mg a) {n j : Nat} {spw : DSp} (ihw : FnD P w K mg base j a.f_Reader_way a.fd_Reader_way ["self", "word", "left"] spw) (hj : j + 1 ≤ 2 * n + 12) (hs : ∀ m, n = m + 1 → ∀ ds G R, sp_Reader_way a m ds G R → spw ds G R) : FnD P w K mg base (2 * n + 12) a.f_Reader_meaning a.fd_Reader_meaning ["self", "left"] (sp_Reader_meaning a n) := by
  refine fun_okD T.F_Reader_meaning sc_Reader_meaning (fun ds G R h => ?_) (fun cdv A outer s H hr => ⟨_, (qss_cons (qs_if (qt_cmp (od_eq hr.units) (qv 1) qe_int (nomark _))
      (qss_one qs_never)
      qss_nil)
      (qss_cons (qs_if (QW.pt (qw_and (qt_cmp (od_ne hr.units) (qe_meth (qv 0) T.cl_Reader T.m_Reader_ahead (ok_Reader_ahead T) (hr.mono (by omega)) T.b_Reader_ahead (qa_cons qe_int qa_nil)) qe_str (nomark _)) (qw_and1 (qt_cmp (od_eq hr.units) (qe_meth0D [.int 0] [.int 0] (rds_i 0) (qv 0) T.cl_Reader T.m_Reader_ahead (ok_Reader_ahead T) (hr.mono (by omega)) T.bd_Reader_ahead) qe_str (nomark _)))))
      (qss_cons (qs_expr (qe_meth0D [.str ""] [.str ""] (rds_s "") (qv 0) T.cl_Reader T.m_Reader_take (ok_Reader_take T) (hr.mono (by omega)) T.bd_Reader_take))
      (qss_cons (qs_set (i := 2) sc_Reader_meaning.nd rfl (.inl rfl) (qe_meth (qv 0) T.cl_Reader T.m_Reader_term (ok_Reader_term T) (hr.mono (by omega)) T.b_Reader_term (qa_cons (qe_op od_sub (qv 1) qe_int) qa_nil)))
      (qss_cons (qs_set (i := 3) sc_Reader_meaning.nd rfl (.inl rfl) (qe_meth (qv 0) T.cl_Reader T.m_Reader_way ihw (hr.mono (by omega)) T.b_Reader_way (qa_cons qe_str (qa_cons (qe_op od_sub (qv 1) qe_int) qa_nil))))
      (qss_one (qs_ret (qe_tup (qa_cons qe_str (qa_cons (qv 2) (qa_cons (qv 3) (qa_cons (qe_meth (qv 0) T.cl_Reader T.m_Reader_way ihw (hr.mono (by omega)) T.b_Reader_way (qa_cons qe_str (qa_cons (qe_op od_sub (qv 1) qe_int) qa_nil))) qa_nil))))))))))
      qss_nil)
      (qss_cons (qs_if (QW.pt (qw_and (qt_cmp (od_ne hr.units) (qe_meth (qv 0) T.cl_Reader T.m_Reader_ahead (ok_Reader_ahead T) (hr.mono (by omega)) T.b_Reader_ahead (qa_cons qe_int qa_nil)) qe_str (nomark _)) (qw_and1 (qt_cmp (od_eq hr.units) (qe_meth0D [.int 0] [.int 0] (rds_i 0) (qv 0) T.cl_Reader T.m_Reader_ahead (ok_Reader_ahead T) (hr.mono (by omega)) T.bd_Reader_ahead) qe_str (nomark _)))))
      (qss_cons (qs_expr (qe_meth0D [.str ""] [.str ""] (rds_s "") (qv 0) T.cl_Reader T.m_Reader_take (ok_Reader_take T) (hr.mono (by omega)) T.bd_Reader_take))
      (qss_one (qs_ret (qe_tup (qa_cons qe_str (qa_cons (qe_tup qa_nil) (qa_cons (qe_tup qa_nil) qa_nil)))))))
      qss_nil)
      (qss_one (qs_ret (qe_meth (qv 0) T.cl_Reader T.m_Reader_done (ok_Reader_done T) (hr.mono (by omega)) T.b_Reader_done (qa_cons (qe_op od_sub (qv 1) qe_int) qa_nil))))))), fun ds G R h => ?_⟩)
  · obtain ⟨M, p, dx, ws, k, left, m, pre, post, rfl, _⟩ := h; rfl
  · obtain ⟨M, p, dx, ws, k, left, m, pre, post, rfl, hM, hm, hlv, hl, hn7, hend, e, hws, hk, h⟩ := h
    obtain ⟨l1, rfl⟩ : ∃ z, left = z + 1 := ⟨left - 1, by cases m <;> simp only [Mn.lvl] at hlv <;> omega⟩
    have el : (((l1 + 1 : Nat) : Int)) - 1 = ((l1 : Nat) : Int) := by omega
    cases m with
    | doo sets st =>
      obtain ⟨h1, h2, h3, h4, h5⟩ := hm
      simp only [Mn.lvl] at hlv
      by_cases hz : sets.map setT ++ st.toList.map stT ≠ []
      · have htok : (Mn.doo sets st).tok = semis (sets.map setK ++ st.toList.map stK) := by simp only [Mn.tok]; rw [if_pos hz]
        rw [htok] at hws h
        have hne : sets ≠ [] ∨ st ≠ none := by
          by_cases c : sets = []
          · refine .inr fun c2 => hz ?_
            rw [c, c2]; rfl
          · exact .inl c
        have hdone : ∀ R' : DK, R' (Mn.doo sets st).d (gup G p (.ins a.c_Reader dx (rdF ws (k + (semis (sets.map setK ++ st.toList.map stK)).length)))) → sp_Reader_done a [.ref p, .int (l1 : Nat)] G R' := fun R' h' => go_done hM (by omega) h1 (fun q hq => ⟨h4 q hq, (h2 q hq).1, by have := setsL_mem hq; omega⟩) (fun q hq => by
          have h6 := h3 q hq
          have h7 : st = some q := hq
          rw [h7] at hlv
          simp only [stL] at hlv
          exact ⟨h6.1.1, by omega, h6.2.1, by omega⟩) hne hend e hws hk h'
        walk_at "go"
        rw [if_neg (by omega)]
        cases sets with
        | cons q r =>
          have hat1 : ws[k + 1]? = some (Str.ofString "=") := by
            have e4 : ∃ tl, semis ((q :: r).map setK ++ st.toList.map stK) = setK q ++ tl := by
              by_cases c : r.map setK ++ st.toList.map stK = []
              · exact ⟨[], by rw [List.map_cons, List.cons_append, c]; simp [semis]⟩
              · exact ⟨_, by rw [List.map_cons, List.cons_append, semis_cons c]⟩
            obtain ⟨tl, e4⟩ := e4
            have := tok_at (pre := pre) (a := [q.1]) (w := Str.ofString "=") (r := q.2.tok ++ (tl ++ post))
            rw [hws, hk, e4]
            simpa [setK] using this
          walk_at "go"
          refine ah_go (many := 1) e (w := Str.ofString "=") (by rw [hat1]; rfl) ?_
          walk_at "go"
          refine ah_go (many := 1) e (w := Str.ofString "=") (by rw [hat1]; rfl) ?_
          walk_at "go"
          rw [el]
          exact ⟨p, dx, _, rfl, e, rfl, hdone _ (rt_same h)⟩
        | nil =>
          obtain ⟨q, rfl⟩ : ∃ q, st = some q := by
            cases st with
            | none => exact (hne.elim (fun h => h rfl) (fun h => h rfl)).elim
            | some q => exact ⟨q, rfl⟩
          obtain ⟨w, r, et, hwn⟩ := tm_head hM (x := q.1) (h3 q rfl).1.1
          have hws3 : ws = pre ++ (Str.ofString "[" :: w :: (r ++ (Str.ofString "]" :: Str.ofString "=" :: (q.2.tok ++ post)))) := by rw [hws]; simp [semis, stK, et]
          have hat : ws[k + 0]? = some (Str.ofString "[") := by rw [Nat.add_zero, hws3, hk]; exact tok_at0
          have hat1 : ws[k + 1]? = some w := by
            have := tok_at (pre := pre) (a := [Str.ofString "["]) (w := w) (r := r ++ (Str.ofString "]" :: Str.ofString "=" :: (q.2.tok ++ post)))
            rw [hws3, hk]; simpa using this
          walk_at "go"
          refine ah_go (many := 1) e (w := w) (by rw [hat1]; rfl) ?_
          walk_at "go"
          rw [if_neg hwn]
          refine ah_go (many := 0) e (w := Str.ofString "[") (by rw [hat]; rfl) ?_
          walk_at "go"
          refine ah_go (many := 1) e (w := w) (by rw [hat1]; rfl) ?_
          walk_at "go"
          rw [if_neg hwn]
          refine ah_go (many := 0) e (w := Str.ofString "[") (by rw [hat]; rfl) ?_
          walk_at "go"
          rw [el]
          exact ⟨p, dx, _, rfl, e, rfl, hdone _ (rt_same h)⟩
      · have hz2 : sets.map setT ++ st.toList.map stT = [] := Classical.not_not.mp hz
        obtain ⟨c1, c2⟩ := List.append_eq_nil_iff.mp hz2
        have c1 : sets = [] := by simpa using c1
        have c2 : st = none := by simpa using c2
        subst c1 c2
        have htok : (Mn.doo [] none).tok = [Str.ofString "nop"] := by simp [Mn.tok]
        rw [htok] at hws h
        have hws3 : ws = (pre ++ [Str.ofString "nop"]) ++ post := by rw [hws]; simp
        have hat : ws[k + 0]? = some (Str.ofString "nop") := by rw [Nat.add_zero, hws, hk]; exact tok_at0
        have hwn : (ws[k + 1]?).getD (Str.ofString "") ≠ Str.ofString "=" := by
          have := (endT_next (pre := pre ++ [Str.ofString "nop"]) hend).2
          rw [← hws3, List.length_append, ← hk] at this
          exact this
        generalize hw : (ws[k + 1]?).getD (Str.ofString "") = w at hwn
        walk_at "go"
        rw [if_neg (by omega)]
        walk_at "go"
        refine ah_go (many := 1) e hw ?_
        walk_at "go"
        rw [if_neg hwn]
        refine ah_go (many := 0) e (w := Str.ofString "nop") (by rw [hat]; rfl) ?_
        walk_at "go"
        refine ah_go (many := 1) e hw ?_
        walk_at "go"
        rw [if_neg hwn]
        refine ah_go (many := 0) e (w := Str.ofString "nop") (by rw [hat]; rfl) ?_
        walk_at "go"
        refine tk_go e (by rw [← hat]; rfl) (by decide +kernel) (by decide +kernel) (.inl rfl) ?_
        walk_at "go"
        exact h
    | ite t m1 m2 =>
      obtain ⟨h1, h2, h3⟩ := hm
      simp only [Mn.lvl] at hlv
      obtain ⟨n', rfl⟩ : ∃ z, n = z + 1 := ⟨n - 1, by have := t.dep_pos; omega⟩
      obtain ⟨w, r, et, hwn⟩ := tm_head hM (x := t) h1.1
      have hws3 : ws = pre ++ (Str.ofString "if" :: (t.tok ++ (Str.ofString "then" :: Str.ofString "{" :: (m1.tok ++ (Str.ofString "}" :: (Str.ofString "else" :: Str.ofString "{" :: (m2.tok ++ (Str.ofString "}" :: post)))))))) := by rw [hws]; simp [Mn.tok]
      have hat : ws[k + 0]? = some (Str.ofString "if") := by rw [Nat.add_zero, hws3, hk]; exact tok_at0
      have hat1 : ws[k + 1]? = some w := by
        have := tok_at (pre := pre) (a := [Str.ofString "if"]) (w := w) (r := r ++ (Str.ofString "then" :: Str.ofString "{" :: (m1.tok ++ (Str.ofString "}" :: (Str.ofString "else" :: Str.ofString "{" :: (m2.tok ++ (Str.ofString "}" :: post)))))))
        rw [hws3, hk, et]; simpa using this
      walk_at "go"
      rw [if_neg (by omega)]
      walk_at "go"
      refine ah_go (many := 1) e (w := w) (by rw [hat1]; rfl) ?_
      walk_at "go"
      rw [if_neg hwn]
      refine ah_go (many := 0) e (w := Str.ofString "if") (by rw [hat]; rfl) ?_
      walk_at "go"
      refine tk_go e (by rw [← hat]; rfl) (by decide +kernel) (by decide +kernel) (.inl rfl) ?_
      walk_at "go"
      rw [el]
      refine tm_go hM h1.1 (by omega) (by omega) gup_same (pre := pre ++ [Str.ofString "if"]) (post := Str.ofString "then" :: Str.ofString "{" :: (m1.tok ++ (Str.ofString "}" :: (Str.ofString "else" :: Str.ofString "{" :: (m2.tok ++ (Str.ofString "}" :: post)))))) (by rw [hws3]; simp) (by simp [hk]) ?_
      rw [gup_gup]
      walk_at "go"
      refine ⟨p, dx, _, rfl, gup_same, rfl, ?_⟩
      rw [el]
      refine hs n' rfl _ _ _ ⟨M, p, dx, ws, k + 1 + t.tok.length, l1, Str.ofString "then", m1, pre ++ Str.ofString "if" :: t.tok, Str.ofString "else" :: Str.ofString "{" :: (m2.tok ++ (Str.ofString "}" :: post)), rfl, ⟨by decide +kernel, by decide +kernel⟩, hM, h2, by omega, by omega, by omega, gup_same, by rw [hws3]; simp, by simp [hk]; omega, ?_⟩
      rw [gup_gup]
      walk_at "go"
      refine ⟨p, dx, _, rfl, gup_same, rfl, ?_⟩
      rw [el]
      refine hs n' rfl _ _ _ ⟨M, p, dx, ws, k + 1 + t.tok.length + 2 + m1.tok.length + 1, l1, Str.ofString "else", m2, pre ++ Str.ofString "if" :: (t.tok ++ (Str.ofString "then" :: Str.ofString "{" :: (m1.tok ++ [Str.ofString "}"]))), post, rfl, ⟨by decide +kernel, by decide +kernel⟩, hM, h3, by omega, by omega, by omega, gup_same, by rw [hws3]; simp, by simp [hk]; omega, ?_⟩
      rw [gup_gup]
      have hlen : k + (Mn.ite t m1 m2).tok.length = k + 1 + t.tok.length + 2 + m1.tok.length + 1 + 2 + m2.tok.length + 1 := by simp [Mn.tok]; omega
      rw [hlen] at h
      walk_at "go"
      exact h
theorem ok_Reader_meaning_n {P : Program} {w : World} {K : PySem.W.Frag} {mg : Str → Option Value} {base : Heap} {a : Ad} (T : Tx w K mg a) : ∀ n : Nat, FnD P w K mg base (2 * n + 12) a.f_Reader_meaning a.fd_Reader_meaning ["self", "left"] (sp_Reader_meaning a n)
  | 0 => ok0_Reader_meaning T (j := 0) fnd_never (by omega) (fun m e => by omega)
  | n + 1 => ok0_Reader_meaning T (ok0_Reader_way T (ok_Reader_meaning_n T n) (by omega) (fun _ _ _ h => h)) (by omega) (fun m e ds G R h => by
    have : n = m := by omega
    subst this
    exact h)
theorem ok_Reader_meaning {P : Program} {w : World} {K : PySem.W.Frag} {mg : Str → Option Value} {base : Heap} {a : Ad} (T : Tx w K mg a) : FnD P w K mg base 26 a.f_Reader_meaning a.fd_Reader_meaning ["self", "left"] (sp_Reader_meaning a 7) := ok_Reader_meaning_n T 7
end K19


set_option Elab.async false
set_option linter.all false
set_option maxRecDepth 100000
set_option maxHeartbeats 4000000
set_option autoImplicit false
namespace K19
open PySem PySem.Spec PyProof.Rows L2 DL
local macro_rules | `(tactic| walk_at "d") => `(tactic| dsimp only [dSeq, dNext, dIfS, dRet, dRetN, dAsg, dName, dVar, dC, dOp, dUn, dChain, dB, dAnd, dOr, dNot, dAndV, dOrV, dNotV, dIf, dNil, dCons, dTup, dLst, newL, dCallB, dCall, dCallK, dDrop, dAug, dAugS, dSub, dM, dM0, dSlice, dNoPart, dPart, dLc, dYes, dFor, dIter, dRng1, dEnum, dZipM, srcD, dStar, dInK, dIxK, dLenSet, dRev,
  startD, wipeD, setAll, dNames, List.map_cons, List.map_nil, List.length_cons, List.length_nil, List.replicate, List.cons_append, List.nil_append, List.append_nil, List.getElem?_cons_zero, List.getElem?_cons_succ, List.set_cons_zero, List.set_cons_succ, List.map, Nat.zero_add, Nat.reduceAdd, Nat.reduceSub, Nat.sub_self, Nat.succ_sub_succ_eq_sub])
local macro_rules | `(tactic| walk_at "o") => `(tactic| simp only [dAdd_ii, dAdd_ss, dAdd_tt, dAdd_ll, dMinus_ii, dMul_ii, dMod_ii, dFdiv_ii, dPow_ii, dShl_ii, dNeg_i, dIadd_ii, dLt_ii, dLe_ii, dGt_ii, dGe_ii, dEq_ii, dNe_ii, dEq_ss, dNe_ss, dEq_bb, dNe_bb, dIs_n, dIsNot_n, dMax2_ii, dMin2_ii, dTuple_t, dTuple_l, dList_t, dList_l, dIx_t, dIx_l, dIx_s, dSl_t, dSl_l, dSl_s, newL_f, len_tup, len_lst])
local macro_rules | `(tactic| walk_at "w") => `(tactic| dsimp only [x_var, x_c, x_op, x_un, x_b, x_and, x_or, x_not, x_chain, x_andV, x_orV, x_notV, x_if, x_nil, x_cons, x_tup, x_lst0, x_lst1, x_callB, x_call, x_callK, x_next, x_seq, x_break, x_cont, x_drop, x_ret, x_ifS, x_asg, x_name, x_names, x_sub, x_aug, x_augS, x_for, x_lc0, x_lc1, x_yes, x_noPart, x_part, x_slice, x_iter, it_t, it_l, it_n, it_s, it_r, x_rng1, x_enum, x_rev, x_m, x_m0, x_mX, x_zip, x_star_t, x_star_l, x_lenSet, x_forgo0, x_lcgo0, x_while, x_par, x_sortK,
  br_t, br_f, isB_bl, isI_int, isN_some, slo_some, atL_lst, ix_t, ix_l, ix_n,
  dAdd_ii, dAdd_ss, dAdd_tt, dAdd_ll, dMinus_ii, dMul_ii, dMod_ii, dFdiv_ii, dPow_ii, dShl_ii, dNeg_i, dIadd_ii, dLt_ii, dLe_ii, dGt_ii, dGe_ii, ltE_ii, ltE_ss, srcD, isi_i, isi_s, isi_b, isi_n, isi_t, isi_nt, isi_l, isi2_i, isi2_s, isi2_b, isi2_n, isi2_t, isi2_nt, isi2_l, inon_n, inon_i, inon_s, inon_b, inon_t, inon_l, inon_r, dEq_ii, dNe_ii, dEq_ss, dNe_ss, dEq_bb, dNe_bb, dIs_n, dIsNot_n, dMax2_ii, dMin2_ii, dTuple_t, dTuple_l, dList_t, dList_l, dSl_t, dSl_l, dSl_s, newL_f, newL_t, app_r, int_b, int_i, strI_i, strX_i, strX_s,
  startD, wipeD, setAll, permL, List.filterMap, List.map_cons, List.map_nil, List.length_cons, List.length_nil, List.replicate, List.cons_append, List.nil_append, List.append_nil, List.getElem?_cons_zero, List.getElem?_cons_succ, List.set_cons_zero, List.set_cons_succ, List.map, Nat.zero_add, Nat.reduceAdd, Nat.reduceSub, Nat.sub_self, Nat.succ_sub_succ_eq_sub])
local macro_rules | `(tactic| walk_at "v") => `(tactic| simp only [ofString_inj, String.reduceEq, at_0, at_1, at_2, at_3, at_4, at_5, isN_some, isBB_bl, isB_bl, br_t, br_f, br_not, br_and, br_or, br_dec, ix_r, len_tup, len_lst, len_nt, ltE_key, gup_gup, gup_same, starD_one, cut1, cut2, kt1, kt2, kt3, kt4, kt5, kt6, isTy, String.reduceBEq, Bool.or_false, Bool.false_or, Bool.true_or, Bool.or_true, Bool.and_false, Bool.false_and, Bool.true_and, Bool.and_true, Bool.not_true, Bool.not_false, decide_true, decide_false, eq_self_iff_true, Bool.false_eq_true, Int.reduceAdd, Int.add_zero, if_true, if_false, true_and, and_true])
local macro_rules | `(tactic| walk_at "side") => `(tactic| first | with_reducible assumption | omega | exact mty_up | exact True.intro | (simp only [List.mem_cons, ofString_inj, String.reduceEq, true_or, or_true, List.length_map]; done) | with_reducible exact (rfl : (_ : Nat) = _) | exact (rfl : (_ : Option String) = _) | (refine small_line ?_; omega) | (walk_at "ll"; first | omega | (refine small_line ?_; omega) | fail) | (exact log_small (by omega)) | fail)
local macro_rules | `(tactic| walk_at "x") => `(tactic| fail)
local macro_rules | `(tactic| walk_at "go") => `(tactic| repeat' (first | dsimp only [x_var, x_c, x_op, x_un, x_b, x_and, x_or, x_not, x_chain, x_andV, x_orV, x_notV, x_if, x_nil, x_cons, x_tup, x_lst0, x_lst1, x_callB, x_call, x_callK, x_next, x_seq, x_break, x_cont, x_drop, x_ret, x_ifS, x_asg, x_name, x_names, x_sub, x_aug, x_augS, x_for, x_lc0, x_lc1, x_yes, x_noPart, x_part, x_slice, x_iter, it_t, it_l, it_n, it_s, it_r, x_rng1, x_enum, x_rev, x_m, x_m0, x_mX, x_zip, x_star_t, x_star_l, x_lenSet, x_forgo0, x_lcgo0, x_while, x_par, x_sortK, br_t, br_f, isB_bl, isI_int, isN_some, slo_some, atL_lst, ix_t, ix_l, ix_n, dAdd_ii, dAdd_ss, dAdd_tt, dAdd_ll, dMinus_ii, dMul_ii, dMod_ii, dFdiv_ii, dPow_ii, dShl_ii, dNeg_i, dIadd_ii, dLt_ii, dLe_ii, dGt_ii, dGe_ii, ltE_ii, ltE_ss, srcD, isi_i, isi_s, isi_b, isi_n, isi_t, isi_nt, isi_l, isi2_i, isi2_s, isi2_b, isi2_n, isi2_t, isi2_nt, isi2_l, inon_n, inon_i, inon_s, inon_b, inon_t, inon_l, inon_r, dEq_ii, dNe_ii, dEq_ss, dNe_ss, dEq_bb, dNe_bb, dIs_n, dIsNot_n, dMax2_ii, dMin2_ii, dTuple_t, dTuple_l, dList_t, dList_l, dSl_t, dSl_l, dSl_s, newL_f, newL_t, app_r, int_b, int_i, strI_i, strX_i, strX_s, startD, wipeD, setAll, permL, List.filterMap, List.map_cons, List.map_nil, List.length_cons, List.length_nil, List.replicate, List.cons_append, List.nil_append, List.append_nil, List.getElem?_cons_zero, List.getElem?_cons_succ, List.set_cons_zero, List.set_cons_succ, List.map, Nat.zero_add, Nat.reduceAdd, Nat.reduceSub, Nat.sub_self, Nat.succ_sub_succ_eq_sub] | simp only [ofString_inj, String.reduceEq, at_0, at_1, at_2, at_3, at_4, at_5, isN_some, isBB_bl, isB_bl, br_t, br_f, br_not, br_and, br_or, br_dec, ix_r, len_tup, len_lst, len_nt, ltE_key, gup_gup, gup_same, starD_one, cut1, cut2, kt1, kt2, kt3, kt4, kt5, kt6, isTy, String.reduceBEq, Bool.or_false, Bool.false_or, Bool.true_or, Bool.or_true, Bool.and_false, Bool.false_and, Bool.true_and, Bool.and_true, Bool.not_true, Bool.not_false, decide_true, decide_false, eq_self_iff_true, Bool.false_eq_true, Int.reduceAdd, Int.add_zero, if_true, if_false, true_and, and_true] | walk_at "x" | with_reducible refine kont_go ?_ | with_reducible refine rt_sub (by assumption) ?_ | with_reducible refine rt_lst (by assumption) ?_ | with_reducible refine rt_drop (by assumption) ?_ | with_reducible refine rt_keep (by assumption) (by assumption) ?_ | with_reducible refine rt_same ?_ | (refine fun (p : Addr) (_ : _ = none) => ?_) | refine join_gor gup_same rfl (by walk_at "side") ?_ | with_reducible refine lc_cons ?_ | with_reducible refine for_cons ?_ | refine join_go rfl (by walk_at "side") ?_ | refine And.intro (by first | with_reducible assumption | omega | exact mty_up | exact True.intro | (simp only [List.mem_cons, ofString_inj, String.reduceEq, true_or, or_true, List.length_map]; done) | with_reducible exact (rfl : (_ : Nat) = _) | exact (rfl : (_ : Option String) = _) | (refine small_line ?_; omega) | (walk_at "ll"; first | omega | (refine small_line ?_; omega) | fail) | (exact log_small (by omega)) | fail) ?_ | fail))
local macro_rules | `(tactic| walk_at "ll") => `(tactic| simp only [List.length_map, List.length_append, List.length_cons, List.length_nil, List.map_cons, List.map_nil, List.sum_cons, List.sum_nil, len_app, rng_length, ll_0, ll_1, ll_2, ll_3, ll_4, ll_5, ll_6, ll_7, ll_8, ll_9, ll_10, ll_11, ll_12, ll_13, ll_14, ll_15, ll_16, ll_17, ll_18, ll_19, ll_20, ll_21, ll_22, ll_23, ll_24, ll_25, ll_26, ll_27, ll_28, ll_29, ll_30, ll_31, ll_32, ll_33, ll_34, ll_35, ll_36, ll_37, ll_38, ll_39, ll_40, ll_41, ll_42, ll_43, ll_44, ll_45, ll_46, ll_47, ll_48, ll_49, ll_50, ll_51, ll_52, ll_53, ll_54])
/-! ### a text taken into words -/
theorem set_last {p : Addr} {ds : List D} {d v : D} {G : Gp} {R : Gp → Prop} (e : G p = some (.lst (ds ++ [d]))) (q : R (gup G p (.lst (ds ++ [v])))) : dSetI (.ref p) (.int (-1)) v G R := by
  have hix : ixN (ds ++ [d]).length (-1) = some ds.length := by
    unfold ixN
    rw [List.length_append, List.length_singleton]
    simp
    omega
  unfold dSetI
  simp only [e, hix]
  rw [List.set_append_right (h := Nat.le_refl _), Nat.sub_self]
  exact q
theorem sg_in {c : Nat} {G : Gp} {R : DK} (k : R (.bl (sg c)) G) : dInE id (.str ⟨#[c]⟩) (.str (Str.ofString "[](){};=")) G R := by
  show R (.bl (decide (c ∈ (Str.ofString "[](){};=").cps.toList))) G
  rw [show (Str.ofString "[](){};=").cps.toList = [91, 93, 40, 41, 123, 125, 59, 61] by decide +kernel]
  exact k
theorem wd_in {c : Nat} {G : Gp} {R : DK} (k : R (.bl (wd c)) G) : dInE id (.str ⟨#[c]⟩) (.str (Str.ofString "abcdefghijklmnopqrstuvwxyz" ++ Str.ofString "0123456789")) G R := by
  show R (.bl (decide (c ∈ cds (Str.ofString "abcdefghijklmnopqrstuvwxyz" ++ Str.ofString "0123456789")))) G
  have e : decide (c ∈ cds (Str.ofString "abcdefghijklmnopqrstuvwxyz" ++ Str.ofString "0123456789")) = wd c := by
    rw [cds_app, show cds (Str.ofString "abcdefghijklmnopqrstuvwxyz") = letters.cps.toList from rfl, show cds (Str.ofString "0123456789") = [48, 49, 50, 51, 52, 53, 54, 55, 56, 57] by decide +kernel]
    unfold wd
    rw [← in_letters, Bool.eq_iff_iff]
    unfold figc
    simp only [List.mem_append, decide_eq_true_eq, Bool.or_eq_true, Bool.and_eq_true, List.mem_cons, List.not_mem_nil, or_false]
    constructor
    · rintro (h | h)
      · exact .inl h
      · exact .inr (by omega)
    · rintro (h | h)
      · exact .inl h
      · exact .inr (by omega)
  rw [e]
  exact k
theorem one_blank (c : Nat) : ((⟨#[c]⟩ : Str) = Str.ofString " ") = (c = 32) := by
  have e : (⟨#[c]⟩ : Str) = Str.ofString " " ↔ c = 32 := by
    constructor
    · intro h
      have := congrArg cds h
      rw [show cds (Str.ofString " ") = [32] by decide +kernel] at this
      simpa [cds] using this
    · rintro rfl
      rfl
  exact propext e
theorem step_cases (near : Bool) (fd : List Str) (c : Nat) (h : near = true → fd ≠ []) : (lexStep near fd c = fd ++ [⟨#[c]⟩]) ∨ (lexStep near fd c = fd ∧ wd c = false) ∨ ∃ fd0 w, fd = fd0 ++ [w] ∧ lexStep near fd c = fd0 ++ [w ++ ⟨#[c]⟩] := by
  unfold lexStep
  by_cases h1 : sg c = true
  · exact .inl (by rw [if_pos h1])
  · rw [if_neg h1]
    by_cases h2 : (near && wd c) = true
    · rw [if_pos h2]
      simp only [Bool.and_eq_true] at h2
      rcases List.eq_nil_or_concat fd with h0 | ⟨l, b, h0⟩
      · exact absurd h0 (h h2.1)
      · refine .inr (.inr ⟨l, b, by rw [h0, List.concat_eq_append], ?_⟩)
        rw [h0, List.concat_eq_append]
        unfold addLast
        simp
    · rw [if_neg h2]
      by_cases h3 : c = 32
      · exact .inr (.inl ⟨by rw [if_neg (fun k => k h3)], by rw [h3]; decide⟩)
      · exact .inl (by rw [if_pos h3])
theorem one_len (c : Nat) : (⟨#[c]⟩ : Str).length = 1 := rfl
def sp_words_in : DSp := fun ds G R => ∃ z : Str, ds = [.str z] ∧ z.length ≤ 8000000 ∧ R (.lst ((lex (cds z) false []).map .str)) G
local macro_rules | `(tactic| walk_at "x") => `(tactic| fail)
theorem ok_words_in {P : Program} {w : World} {K : PySem.W.Frag} {mg : Str → Option Value} {base : Heap} {a : Ad} (T : Tx w K mg a) : FnD P w K mg base 1 a.f_words_in a.fd_words_in ["text"] sp_words_in := by
  refine fun_okD T.F_words_in sc_words_in (fun ds G R h => ?_) (fun cdv A outer s H hr => ⟨_, (qss_cons (qs_set (i := 1) sc_words_in.nd rfl (.inl rfl) (qe_lst true qa_nil))
      (qss_cons (qs_set (i := 2) sc_words_in.nd rfl (.inl rfl) qe_bl)
      (qss_cons (qs_for PassesOwn.never rfl (qi_seq (qv 0)) (qg_of (pg_name (i := 3) sc_words_in.nd rfl (.inl rfl)) (tg_name (i := 3) (ws := [3]) (by decide)))
      (qss_cons (qs_if (qt_cmp (od_inE (room100 hr)) (qv 3) (qe_globS rfl T.c_SIGNS) rfl)
      (qss_one (qs_expr (qe_m PySem.F.plainAttrs_list PySem.F.slot_list_append PySem.F.type_list_append md_append (qv 1) (qa_cons (qv 3) qa_nil))))
      (qss_one (qs_if (QW.pt (qw_and (qt_val (qv 2)) (qw_and1 (qt_cmp (od_inE (room100 hr)) (qv 3) (qe_op (od_add false) (qe_globS rfl T.c_LETTERS) (qe_globS rfl T.c_FIGURES)) rfl))))
      (qss_one (qs_augS (qv 1) (qe_un od_neg qe_int) gd_ix (qv 3) od_iadd sd_set))
      (qss_one (qs_if (qt_cmp (od_ne hr.units) (qv 3) qe_str (nomark _))
      (qss_one (qs_expr (qe_m PySem.F.plainAttrs_list PySem.F.slot_list_append PySem.F.type_list_append md_append (qv 1) (qa_cons (qv 3) qa_nil))))
      qss_nil)))))
      (qss_one (qs_set (i := 2) sc_words_in.nd rfl (.inl rfl) (qe_cmp (od_inE (room100 hr)) (qv 3) (qe_op (od_add false) (qe_globS rfl T.c_LETTERS) (qe_globS rfl T.c_FIGURES)) rfl)))))
      (qss_one (qs_ret (qv 1)))))), fun ds G R h => ?_⟩)
  · obtain ⟨z, rfl, _⟩ := h; rfl
  · obtain ⟨z, rfl, hz, h⟩ := h
    refine seq_cut (fun σ' G' => ∃ f, σ' = [some (.str z), some (.ref f), none, none] ∧ G f = none ∧ G' = gup G f (.lst [])) ?_ (fun N1 hN1 => ?_)
    rotate_left
    · walk_at "go"
      rename_i f nf
      exact hN1 _ _ ⟨f, rfl, nf, rfl⟩
    rintro σ G1 ⟨f, rfl, nf, rfl⟩
    refine seq_cut (fun σ' G' => σ' = [some (.str z), some (.ref f), some (.bl false), none] ∧ G' = gup G f (.lst [])) ?_ (fun N1 hN1 => ?_)
    rotate_left
    · walk_at "go"
      exact hN1 _ _ ⟨rfl, rfl⟩
    rintro σ G1 ⟨rfl, rfl⟩
    refine seq_cut (fun σ' G' => ∃ x2 x3, σ' = [some (.str z), some (.ref f), x2, x3] ∧ G' = gup G f (.lst ((lex (cds z) false []).map .str))) ?_ (fun N1 hN1 => ?_)
    rotate_left
    · walk_at "go"
      show dForGo _ _ _ _ ((cds z).map fun c => D.str ⟨#[c]⟩) _ _
      refine for_lst (fun c => D.str ⟨#[c]⟩) (cds z) (fun j σ' G' => ∃ (near : Bool) (fd : List Str) (x3 : Option D), σ' = [some (.str z), some (.ref f), some (.bl near), x3] ∧ G' = gup G f (.lst (fd.map .str)) ∧ lex ((cds z).drop j) near fd = lex (cds z) false [] ∧ fd.length ≤ j ∧ (near = true → fd ≠ []) ∧ ∀ w ∈ fd, w.length ≤ j) ?turn ?fin _ _ ⟨false, [], none, rfl, rfl, rfl, Nat.le_refl _, fun h => (by cases h), fun w hw => (by cases hw)⟩
      case fin =>
        rintro σ' G' ⟨near, fd, x3, rfl, rfl, hlx, _⟩
        rw [List.drop_length] at hlx
        have hlx : fd = lex (cds z) false [] := hlx
        rw [hlx]
        exact hN1 _ _ ⟨_, _, rfl, rfl⟩
      case turn =>
        rintro j c σ' G' hc ⟨near, fd, x3, rfl, rfl, hlx, hfl, hnr, hwl⟩ N hN
        have hjl := (List.getElem?_eq_some_iff.mp hc).1
        rw [cds_len] at hjl
        have hdr : (cds z).drop j = c :: (cds z).drop (j + 1) := by
          obtain ⟨h1, h2⟩ := List.getElem?_eq_some_iff.mp hc
          rw [List.drop_eq_getElem_cons h1, h2]
        rw [hdr, lex] at hlx
        refine seq_cut (fun σ' G' => σ' = [some (.str z), some (.ref f), some (.bl near), some (.str ⟨#[c]⟩)] ∧ G' = gup G f (.lst ((lexStep near fd c).map .str))) ?_ (fun N2 hN2 => ?_)
        rotate_left
        · have e1 : gup G f (.lst (fd.map D.str)) f = some (.lst (fd.map D.str)) := gup_same
          walk_at "go"
          refine sg_in ?_
          cases hsg : sg c with
          | true =>
            walk_at "go"
            refine ⟨by rw [List.length_map, sizeLine_eq]; omega, ?_⟩
            refine hN2 _ _ ⟨rfl, ?_⟩
            rw [show lexStep near fd c = fd ++ [⟨#[c]⟩] by unfold lexStep; rw [if_pos hsg], List.map_append]
            rfl
          | false =>
            have finA : c = 32 → lexStep near fd c = fd → N2 [some (.str z), some (.ref f), some (.bl near), some (.str ⟨#[c]⟩)] (gup G f (.lst (fd.map D.str))) := fun _ hls => hN2 _ _ ⟨rfl, by rw [hls]⟩
            have finB : lexStep near fd c = fd ++ [⟨#[c]⟩] → N2 [some (.str z), some (.ref f), some (.bl near), some (.str ⟨#[c]⟩)] (gup G f (.lst (fd.map D.str ++ [D.str ⟨#[c]⟩]))) := fun hls => hN2 _ _ ⟨rfl, by rw [hls, List.map_append]; rfl⟩
            have hfs : (fd.map D.str).length < sizeLine := by rw [List.length_map, sizeLine_eq]; omega
            walk_at "go"
            cases near with
            | false =>
              rw [br_f]
              by_cases c32 : c = 32
              · rw [if_pos (by rw [one_blank]; exact c32)]
                exact finA c32 (by unfold lexStep; rw [hsg, if_neg (by decide), if_neg (by simp), if_neg (fun h => h c32)])
              · rw [if_neg (by rw [one_blank]; exact c32)]
                exact ⟨mty_at e1, hfs, finB (by unfold lexStep; rw [hsg, if_neg (by decide), if_neg (by simp), if_pos c32])⟩
            | true =>
              rw [br_t]
              refine ⟨line_okT (by decide +kernel), ?_⟩
              refine wd_in ?_
              cases hw : wd c with
              | false =>
                walk_at "go"
                by_cases c32 : c = 32
                · rw [if_pos (by rw [one_blank]; exact c32)]
                  exact finA c32 (by unfold lexStep; rw [hsg, hw, if_neg (by decide), if_neg (by decide), if_neg (fun h => h c32)])
                · rw [if_neg (by rw [one_blank]; exact c32)]
                  exact ⟨mty_at e1, hfs, finB (by unfold lexStep; rw [hsg, hw, if_neg (by decide), if_neg (by decide), if_pos c32])⟩
              | true =>
                obtain ⟨fd0, w, rfl⟩ : ∃ fd0 w, fd = fd0 ++ [w] := by
                  rcases List.eq_nil_or_concat fd with h0 | ⟨l, b, h0⟩
                  · exact absurd h0 (hnr rfl)
                  · exact ⟨l, b, by rw [h0, List.concat_eq_append]⟩
                have hww := hwl w (by simp)
                rw [List.map_append]
                walk_at "go"
                unfold dGetI
                dsimp only
                rw [gup_same]
                dsimp only
                rw [atI_neg1 (x := D.str w) (by simp)]
                refine ⟨line_okT (by rw [one_len]; omega), ?_⟩
                refine set_last (ds := fd0.map D.str) (d := D.str w) gup_same ?_
                rw [gup_gup]
                refine hN2 _ _ ⟨rfl, ?_⟩
                have hst : lexStep true (fd0 ++ [w]) c = fd0 ++ [w ++ ⟨#[c]⟩] := by
                  unfold lexStep addLast
                  rw [hsg, hw]
                  simp
                rw [hst, List.map_append]
                rfl
        rintro σ2 G2 ⟨rfl, rfl⟩
        walk_at "go"
        refine wd_in ?_
        refine hN _ _ ⟨wd c, lexStep near fd c, _, rfl, rfl, hlx, ?_, fun hw => ?_, fun w hw => ?_⟩
        · rcases step_cases near fd c hnr with e | ⟨e, _⟩ | ⟨fd0, v, e0, e⟩
          · rw [e, List.length_append, List.length_singleton]; omega
          · rw [e]; omega
          · rw [e0, List.length_append, List.length_singleton] at hfl
            rw [e, List.length_append, List.length_singleton]; omega
        · rcases step_cases near fd c hnr with e | ⟨e, h0⟩ | ⟨fd0, v, e0, e⟩
          · rw [e]; simp
          · rw [h0] at hw; cases hw
          · rw [e]; simp
        · rcases step_cases near fd c hnr with e | ⟨e, h0⟩ | ⟨fd0, v, e0, e⟩
          · rw [e] at hw
            rcases List.mem_append.mp hw with hw | hw
            · have := hwl w hw; omega
            · rw [List.mem_singleton.mp hw, one_len]; omega
          · rw [e] at hw
            have := hwl w hw; omega
          · rw [e] at hw
            rcases List.mem_append.mp hw with hw | hw
            · have := hwl w (by rw [e0]; exact List.mem_append_left _ hw); omega
            · have := hwl v (by rw [e0]; simp)
              rw [List.mem_singleton.mp hw, len_app, one_len]; omega
    rintro σ G2 ⟨x2, x3, rfl, rfl⟩
    walk_at "go"
    exact h
theorem go_words {z : Str} {G : Gp} {R : DK} (hz : z.length ≤ 8000000) (h : R (.lst ((lex (cds z) false []).map .str)) G) : sp_words_in [.str z] G R := ⟨z, rfl, hz, h⟩
end K19


set_option Elab.async false
set_option linter.all false
set_option maxRecDepth 100000
set_option maxHeartbeats 4000000
set_option autoImplicit false
namespace K19
open PySem PySem.Spec PyProof.Rows L2 DL
local macro_rules | `(tactic| walk_at "d") => `(tactic| dsimp only [dSeq, dNext, dIfS, dRet, dRetN, dAsg, dName, dVar, dC, dOp, dUn, dChain, dB, dAnd, dOr, dNot, dAndV, dOrV, dNotV, dIf, dNil, dCons, dTup, dLst, newL, dCallB, dCall, dCallK, dDrop, dAug, dAugS, dSub, dM, dM0, dSlice, dNoPart, dPart, dLc, dYes, dFor, dIter, dRng1, dEnum, dZipM, srcD, dStar, dInK, dIxK, dLenSet, dRev,
  startD, wipeD, setAll, dNames, List.map_cons, List.map_nil, List.length_cons, List.length_nil, List.replicate, List.cons_append, List.nil_append, List.append_nil, List.getElem?_cons_zero, List.getElem?_cons_succ, List.set_cons_zero, List.set_cons_succ, List.map, Nat.zero_add, Nat.reduceAdd, Nat.reduceSub, Nat.sub_self, Nat.succ_sub_succ_eq_sub])
local macro_rules | `(tactic| walk_at "o") => `(tactic| simp only [dAdd_ii, dAdd_ss, dAdd_tt, dAdd_ll, dMinus_ii, dMul_ii, dMod_ii, dFdiv_ii, dPow_ii, dShl_ii, dNeg_i, dIadd_ii, dLt_ii, dLe_ii, dGt_ii, dGe_ii, dEq_ii, dNe_ii, dEq_ss, dNe_ss, dEq_bb, dNe_bb, dIs_n, dIsNot_n, dMax2_ii, dMin2_ii, dTuple_t, dTuple_l, dList_t, dList_l, dIx_t, dIx_l, dIx_s, dSl_t, dSl_l, dSl_s, newL_f, len_tup, len_lst])
local macro_rules | `(tactic| walk_at "w") => `(tactic| dsimp only [x_var, x_c, x_op, x_un, x_b, x_and, x_or, x_not, x_chain, x_andV, x_orV, x_notV, x_if, x_nil, x_cons, x_tup, x_lst0, x_lst1, x_callB, x_call, x_callK, x_next, x_seq, x_break, x_cont, x_drop, x_ret, x_ifS, x_asg, x_name, x_names, x_sub, x_aug, x_augS, x_for, x_lc0, x_lc1, x_yes, x_noPart, x_part, x_slice, x_iter, it_t, it_l, it_n, it_s, it_r, x_rng1, x_enum, x_rev, x_m, x_m0, x_mX, x_zip, x_star_t, x_star_l, x_lenSet, x_forgo0, x_lcgo0, x_while, x_par, x_sortK,
  br_t, br_f, isB_bl, isI_int, isN_some, slo_some, atL_lst, ix_t, ix_l, ix_n,
  dAdd_ii, dAdd_ss, dAdd_tt, dAdd_ll, dMinus_ii, dMul_ii, dMod_ii, dFdiv_ii, dPow_ii, dShl_ii, dNeg_i, dIadd_ii, dLt_ii, dLe_ii, dGt_ii, dGe_ii, ltE_ii, ltE_ss, srcD, isi_i, isi_s, isi_b, isi_n, isi_t, isi_nt, isi_l, isi2_i, isi2_s, isi2_b, isi2_n, isi2_t, isi2_nt, isi2_l, inon_n, inon_i, inon_s, inon_b, inon_t, inon_l, inon_r, dEq_ii, dNe_ii, dEq_ss, dNe_ss, dEq_bb, dNe_bb, dIs_n, dIsNot_n, dMax2_ii, dMin2_ii, dTuple_t, dTuple_l, dList_t, dList_l, dSl_t, dSl_l, dSl_s, newL_f, newL_t, app_r, int_b, int_i, strI_i, strX_i, strX_s,
  startD, wipeD, setAll, permL, List.filterMap, List.map_cons, List.map_nil, List.length_cons, List.length_nil, List.replicate, List.cons_append, List.nil_append, List.append_nil, List.getElem?_cons_zero, List.getElem?_cons_succ, List.set_cons_zero, List.set_cons_succ, List.map, Nat.zero_add, Nat.reduceAdd, Nat.reduceSub, Nat.sub_self, Nat.succ_sub_succ_eq_sub])
local macro_rules | `(tactic| walk_at "v") => `(tactic| simp only [ofString_inj, String.reduceEq, at_0, at_1, at_2, at_3, at_4, at_5, isN_some, isBB_bl, isB_bl, br_t, br_f, br_not, br_and, br_or, br_dec, ix_r, len_tup, len_lst, len_nt, ltE_key, gup_gup, gup_same, starD_one, cut1, cut2, kt1, kt2, kt3, kt4, kt5, kt6, isTy, String.reduceBEq, Bool.or_false, Bool.false_or, Bool.true_or, Bool.or_true, Bool.and_false, Bool.false_and, Bool.true_and, Bool.and_true, Bool.not_true, Bool.not_false, decide_true, decide_false, eq_self_iff_true, Bool.false_eq_true, Int.reduceAdd, Int.add_zero, if_true, if_false, true_and, and_true])
local macro_rules | `(tactic| walk_at "side") => `(tactic| first | with_reducible assumption | omega | exact mty_up | exact True.intro | (simp only [List.mem_cons, ofString_inj, String.reduceEq, true_or, or_true, List.length_map]; done) | with_reducible exact (rfl : (_ : Nat) = _) | exact (rfl : (_ : Option String) = _) | (refine small_line ?_; omega) | (walk_at "ll"; first | omega | (refine small_line ?_; omega) | fail) | (exact log_small (by omega)) | fail)
local macro_rules | `(tactic| walk_at "x") => `(tactic| fail)
local macro_rules | `(tactic| walk_at "go") => `(tactic| repeat' (first | dsimp only [x_var, x_c, x_op, x_un, x_b, x_and, x_or, x_not, x_chain, x_andV, x_orV, x_notV, x_if, x_nil, x_cons, x_tup, x_lst0, x_lst1, x_callB, x_call, x_callK, x_next, x_seq, x_break, x_cont, x_drop, x_ret, x_ifS, x_asg, x_name, x_names, x_sub, x_aug, x_augS, x_for, x_lc0, x_lc1, x_yes, x_noPart, x_part, x_slice, x_iter, it_t, it_l, it_n, it_s, it_r, x_rng1, x_enum, x_rev, x_m, x_m0, x_mX, x_zip, x_star_t, x_star_l, x_lenSet, x_forgo0, x_lcgo0, x_while, x_par, x_sortK, br_t, br_f, isB_bl, isI_int, isN_some, slo_some, atL_lst, ix_t, ix_l, ix_n, dAdd_ii, dAdd_ss, dAdd_tt, dAdd_ll, dMinus_ii, dMul_ii, dMod_ii, dFdiv_ii, dPow_ii, dShl_ii, dNeg_i, dIadd_ii, dLt_ii, dLe_ii, dGt_ii, dGe_ii, ltE_ii, ltE_ss, srcD, isi_i, isi_s, isi_b, isi_n, isi_t, isi_nt, isi_l, isi2_i, isi2_s, isi2_b, isi2_n, isi2_t, isi2_nt, isi2_l, inon_n, inon_i, inon_s, inon_b, inon_t, inon_l, inon_r, dEq_ii, dNe_ii, dEq_ss, dNe_ss, dEq_bb, dNe_bb, dIs_n, dIsNot_n, dMax2_ii, dMin2_ii, dTuple_t, dTuple_l, dList_t, dList_l, dSl_t, dSl_l, dSl_s, newL_f, newL_t, app_r, int_b, int_i, strI_i, strX_i, strX_s, startD, wipeD, setAll, permL, List.filterMap, List.map_cons, List.map_nil, List.length_cons, List.length_nil, List.replicate, List.cons_append, List.nil_append, List.append_nil, List.getElem?_cons_zero, List.getElem?_cons_succ, List.set_cons_zero, List.set_cons_succ, List.map, Nat.zero_add, Nat.reduceAdd, Nat.reduceSub, Nat.sub_self, Nat.succ_sub_succ_eq_sub] | simp only [ofString_inj, String.reduceEq, at_0, at_1, at_2, at_3, at_4, at_5, isN_some, isBB_bl, isB_bl, br_t, br_f, br_not, br_and, br_or, br_dec, ix_r, len_tup, len_lst, len_nt, ltE_key, gup_gup, gup_same, starD_one, cut1, cut2, kt1, kt2, kt3, kt4, kt5, kt6, isTy, String.reduceBEq, Bool.or_false, Bool.false_or, Bool.true_or, Bool.or_true, Bool.and_false, Bool.false_and, Bool.true_and, Bool.and_true, Bool.not_true, Bool.not_false, decide_true, decide_false, eq_self_iff_true, Bool.false_eq_true, Int.reduceAdd, Int.add_zero, if_true, if_false, true_and, and_true] | walk_at "x" | with_reducible refine kont_go ?_ | with_reducible refine rt_sub (by assumption) ?_ | with_reducible refine rt_lst (by assumption) ?_ | with_reducible refine rt_drop (by assumption) ?_ | with_reducible refine rt_keep (by assumption) (by assumption) ?_ | with_reducible refine rt_same ?_ | (refine fun (p : Addr) (_ : _ = none) => ?_) | refine join_gor gup_same rfl (by walk_at "side") ?_ | with_reducible refine lc_cons ?_ | with_reducible refine for_cons ?_ | refine join_go rfl (by walk_at "side") ?_ | refine And.intro (by first | with_reducible assumption | omega | exact mty_up | exact True.intro | (simp only [List.mem_cons, ofString_inj, String.reduceEq, true_or, or_true, List.length_map]; done) | with_reducible exact (rfl : (_ : Nat) = _) | exact (rfl : (_ : Option String) = _) | (refine small_line ?_; omega) | (walk_at "ll"; first | omega | (refine small_line ?_; omega) | fail) | (exact log_small (by omega)) | fail) ?_ | fail))
local macro_rules | `(tactic| walk_at "ll") => `(tactic| simp only [List.length_map, List.length_append, List.length_cons, List.length_nil, List.map_cons, List.map_nil, List.sum_cons, List.sum_nil, len_app, rng_length, ll_0, ll_1, ll_2, ll_3, ll_4, ll_5, ll_6, ll_7, ll_8, ll_9, ll_10, ll_11, ll_12, ll_13, ll_14, ll_15, ll_16, ll_17, ll_18, ll_19, ll_20, ll_21, ll_22, ll_23, ll_24, ll_25, ll_26, ll_27, ll_28, ll_29, ll_30, ll_31, ll_32, ll_33, ll_34, ll_35, ll_36, ll_37, ll_38, ll_39, ll_40, ll_41, ll_42, ll_43, ll_44, ll_45, ll_46, ll_47, ll_48, ll_49, ll_50, ll_51, ll_52, ll_53, ll_54])
/-! ### lengths of joined texts -/
theorem join_len (sep : Str) : ∀ zs : List Str, (Txt.join sep zs).length ≤ (zs.map fun z : Str => z.length).sum + zs.length * sep.length := by
  intro zs
  rw [← cds_len, cds_join]
  induction zs with
  | nil => simp
  | cons z r ih =>
    cases r with
    | nil =>
      simp only [List.map_cons, List.map_nil, List.intersperse_singleton, List.flatten_cons, List.flatten_nil, List.append_nil, List.sum_cons, List.sum_nil, List.length_cons, List.length_nil, cds_len]
      omega
    | cons y r =>
      simp only [List.map_cons, List.intersperse_cons₂, List.flatten_cons, List.length_append, List.sum_cons, List.length_cons, cds_len] at ih ⊢
      rw [Nat.add_mul (r.length + 1) 1, Nat.one_mul]
      omega
theorem sum_le2 {n : Nat} : ∀ zs : List Str, (∀ z ∈ zs, z.length ≤ n) → (zs.map fun z : Str => z.length).sum ≤ n * zs.length
  | [], _ => by simp
  | z :: zs, h => by
    have h1 := h z List.mem_cons_self
    have h2 := sum_le2 zs fun y hy => h y (List.mem_cons_of_mem _ hy)
    simp only [List.map_cons, List.sum_cons, List.length_cons, Nat.mul_add, Nat.mul_one]
    omega
theorem py_str {z : Str} : pyD (.str z) = true ↔ ∀ c ∈ cds z, c < 1114112 := by
  simp only [pyD, List.all_eq_true, decide_eq_true_eq, cds]
theorem py_of (s : String) : pyD (.str (Str.ofString s)) = true := by
  rw [py_str]
  intro c hc
  rw [Str.ofString_eq_toList] at hc
  have hc : c ∈ s.toList.map Char.toNat := by simpa [cds] using hc
  rw [List.mem_map] at hc
  obtain ⟨x, _, rfl⟩ := hc
  have := x.valid
  unfold Char.toNat
  simp only [UInt32.isValidChar, Nat.isValidChar] at this
  show x.val.toNat < 1114112
  omega
theorem py_app {a b : Str} (h1 : pyD (.str a) = true) (h2 : pyD (.str b) = true) : pyD (.str (a ++ b)) = true := by
  rw [py_str] at *
  rw [cds_app]
  intro c hc
  rcases List.mem_append.mp hc with hc | hc
  · exact h1 c hc
  · exact h2 c hc
theorem py_join {sep : Str} (h : pyD (.str sep) = true) : ∀ {zs : List Str}, (∀ z ∈ zs, pyD (.str z) = true) → pyD (.str (Txt.join sep zs)) = true := by
  intro zs hz
  rw [py_str, cds_join]
  intro c hc
  obtain ⟨l, hl, hc⟩ := List.mem_flatten.mp hc
  have key : ∀ (ls : List (List Nat)) (s l : List Nat), l ∈ ls.intersperse s → l = s ∨ l ∈ ls := by
    intro ls s l
    induction ls with
    | nil => intro h; cases h
    | cons a ls ih =>
      cases ls with
      | nil => intro h; exact .inr (by simpa using h)
      | cons b ls =>
        intro h
        rw [List.intersperse_cons₂] at h
        rcases List.mem_cons.mp h with h | h
        · exact .inr (by simp [h])
        · rcases List.mem_cons.mp h with h | h
          · exact .inl h
          · rcases ih h with h | h
            · exact .inl h
            · exact .inr (List.mem_cons_of_mem _ h)
  rcases key _ _ _ hl with rfl | hl
  · exact py_str.mp h c hc
  · obtain ⟨z, hz2, rfl⟩ := List.mem_map.mp hl
    exact py_str.mp (hz z hz2) c hc
/-! ### meanings shown -/
def itemsT (sets : List (Str × Tm)) (st : Option (Tm × Tm)) : List Str := sets.map setT ++ st.toList.map stT
theorem items_len {M : Mach} (hM : M.ok) {sets : List (Str × Tm)} {st : Option (Tm × Tm)} (h : (Mn.doo sets st).ok M) : (itemsT sets st).length ≤ 7 ∧ ∀ z ∈ itemsT sets st, z.length ≤ 3100 := by
  obtain ⟨h1, h2, h3, h4, h5⟩ := h
  refine ⟨?_, fun z hz => ?_⟩
  · unfold itemsT
    rw [List.length_append, List.length_map, List.length_map]
    cases st <;> simp <;> omega
  · unfold itemsT at hz
    rcases List.mem_append.mp hz with hz | hz
    · obtain ⟨p, hp, rfl⟩ := List.mem_map.mp hz
      obtain ⟨⟨_, g2⟩, _⟩ := nameOk_iff.mp (hM.nm.1 _ (h4 p hp))
      rw [cds_len] at g2
      have := tm_len7 hM (h2 p hp).1 (h2 p hp).2
      unfold setT
      rw [len_app, len_app, show (Str.ofString " = ").length = 3 by decide +kernel]
      omega
    · obtain ⟨p, hp, rfl⟩ := List.mem_map.mp hz
      have hq := h3 p (by simpa using hp)
      have g1 := tm_len7 hM hq.1.1 hq.1.2
      have g2 := tm_len7 hM hq.2.1 hq.2.2
      unfold stT
      rw [len_app, len_app, len_app, show (Str.ofString "[").length = 1 by decide +kernel, show (Str.ofString "] = ").length = 4 by decide +kernel]
      omega
theorem tm_pyT {M : Mach} (hM : M.ok) : ∀ {x : Tm}, x.ok M → pyD (.str x.txt) = true
  | .num w, h => by
    have htop := top_le hM.b1 hM.b2
    have h : (w : Int) < 2 ^ M.b.toNat := h
    exact wd_py (num_wd (k := w) (by omega))
  | .reg x, h => wd_py (nameW hM h)
  | .load t, h => py_app (py_app (py_of _) (tm_pyT hM (x := t) h)) (py_of _)
  | .op o t u, h => py_app (py_app (py_app (py_app (py_app (py_app (py_of _) (tm_pyT hM (x := t) h.2.1)) (py_of _)) (opL_py o h.1)) (py_of _)) (tm_pyT hM (x := u) h.2.2)) (py_of _)
theorem items_py {M : Mach} (hM : M.ok) {sets : List (Str × Tm)} {st : Option (Tm × Tm)} (h : (Mn.doo sets st).ok M) : ∀ z ∈ itemsT sets st, pyD (.str z) = true := fun z hz => by
  obtain ⟨h1, h2, h3, h4, h5⟩ := h
  unfold itemsT at hz
  rcases List.mem_append.mp hz with hz | hz
  · obtain ⟨p, hp, rfl⟩ := List.mem_map.mp hz
    exact py_app (py_app (wd_py (nameW hM (h4 p hp))) (py_of _)) (tm_pyT hM (h2 p hp).1)
  · obtain ⟨p, hp, rfl⟩ := List.mem_map.mp hz
    have hq := h3 p (by simpa using hp)
    exact py_app (py_app (py_app (py_of _) (tm_pyT hM hq.1.1)) (py_of _)) (tm_pyT hM hq.2.1)
theorem mn_pyT {M : Mach} (hM : M.ok) : ∀ {x : Mn}, x.ok M → pyD (.str x.txt) = true
  | .doo sets st, h => by
    simp only [Mn.txt]
    split
    · exact py_join (py_of _) (items_py hM h)
    · exact py_of _
  | .ite t m n, h => py_app (py_app (py_app (py_app (py_app (py_of _) (tm_pyT hM h.1.1)) (py_of _)) (py_app (py_app (py_of _) (mn_pyT hM h.2.1)) (py_of _))) (py_of _)) (py_app (py_app (py_of _) (mn_pyT hM h.2.2)) (py_of _))
theorem strs_pyT {zs : List Str} (h : ∀ z ∈ zs, pyD (.str z) = true) : pyDs (zs.map D.str) = true := by
  induction zs with
  | nil => rfl
  | cons z zs ih =>
    have h1 := h z List.mem_cons_self
    have h2 := ih fun y hy => h y (List.mem_cons_of_mem _ hy)
    simp only [List.map_cons, pyDs, h1, h2, Bool.and_self]
theorem strs_depT (zs : List Str) : depDs (zs.map D.str) ≤ 1 := by
  induction zs with
  | nil => simp [depDs]
  | cons z zs ih => simp only [List.map_cons, depDs, depD]; omega
theorem items_fit {M : Mach} (hM : M.ok) {sets : List (Str × Tm)} {st : Option (Tm × Tm)} (h : (Mn.doo sets st).ok M) : ((itemsT sets st).map fun z : Str => z.length).sum + (itemsT sets st).length * (Str.ofString " ; ").length ≤ 21800 := by
  obtain ⟨h1, h2⟩ := items_len hM h
  have h3 := sum_le2 _ h2
  rw [show (Str.ofString " ; ").length = 3 by decide +kernel]
  omega
theorem mn_len {M : Mach} (hM : M.ok) : ∀ {x : Mn}, x.ok M → x.txt.length + 4000 ≤ 26000 * 2 ^ x.lv
  | .doo sets st, h => by
    have h1 := items_fit hM h
    have h2 := join_len (Str.ofString " ; ") (itemsT sets st)
    simp only [Mn.txt, Mn.lv]
    by_cases c : sets.map setT ++ st.toList.map stT ≠ []
    · rw [if_pos c]
      have : (Txt.join " ; " (sets.map setT ++ st.toList.map stT)).length ≤ 21800 := Nat.le_trans h2 h1
      omega
    · rw [if_neg c, show (Str.ofString "nop").length = 3 by decide +kernel]
      omega
  | .ite t m n, h => by
    obtain ⟨h1, h2, h3⟩ := h
    have g := tm_len7 hM h1.1 h1.2
    have i1 := mn_len hM h2
    have i2 := mn_len hM h3
    have e1 : 2 ^ m.lv ≤ 2 ^ max m.lv n.lv := Nat.pow_le_pow_right (by omega) (by omega)
    have e2 : 2 ^ n.lv ≤ 2 ^ max m.lv n.lv := Nat.pow_le_pow_right (by omega) (by omega)
    simp only [Mn.txt, Mn.lv, len_app, show (Str.ofString "if ").length = 3 by decide +kernel, show (Str.ofString " then ").length = 6 by decide +kernel, show (Str.ofString " else ").length = 6 by decide +kernel, show (Str.ofString "{ ").length = 2 by decide +kernel, show (Str.ofString " }").length = 2 by decide +kernel, Nat.pow_succ]
    omega
theorem mn_len7 {M : Mach} (hM : M.ok) {x : Mn} (h : x.ok M) (hd : x.lv ≤ 7) : x.txt.length ≤ 3400000 := by
  have := mn_len hM h
  have h2 : 2 ^ x.lv ≤ 2 ^ 7 := Nat.pow_le_pow_right (by omega) hd
  omega
theorem mn_signs : (Str.ofString "if ").length = 3 ∧ (Str.ofString " then ").length = 6 ∧ (Str.ofString " else ").length = 6 ∧ (Str.ofString "{ ").length = 2 ∧ (Str.ofString " }").length = 2 ∧ (Str.ofString "] = ").length = 4 ∧ (Str.ofString " = ").length = 3 ∧ (Str.ofString " then { ").length = 8 ∧ (Str.ofString " } else { ").length = 10 := by decide +kernel
def sp_show_meaning (n : Nat) : DSp := fun ds G R => ∃ (M : Mach) (x : Mn), ds = [x.d] ∧ M.ok ∧ x.ok M ∧ x.lv ≤ n ∧ n ≤ 7 ∧ R (.str x.txt) G
local macro_rules | `(tactic| walk_at "x") => `(tactic| fail)
theorem ok0_show_meaning {P : Program} {w : World} {K : PySem.W.Frag} {mg : Str → Option Value} {base : Heap} {a : Ad} (T : Tx w K mg a) {n j : Nat} {sp' : DSp} (ih : FnD P w K mg base j a.f_show_meaning a.fd_show_meaning ["meaning"] sp') (hj : j ≤ n + 8) (hs : ∀ m, n = m + 1 → ∀ ds G R, sp_show_meaning m ds G R → sp' ds G R) : FnD P w K mg base (n + 9) a.f_show_meaning a.fd_show_meaning ["meaning"] (sp_show_meaning n) := by
  refine fun_okD T.F_show_meaning sc_show_meaning (fun ds G R h => ?_) (fun cdv A outer s H hr => ⟨_, (qss_cons (qs_asg (qv 0) (qg_star (n := 2) (i := 1) (is := [1, 2]) rfl (pgs_cons (pg_name (i := 1) sc_show_meaning.nd rfl (.inl rfl)) (pgs_star (pg_name (i := 2) sc_show_meaning.nd rfl (.inl rfl)) pgs_nil)) (by decide) rfl))
      (qss_cons (qs_if (qt_cmp (od_eq hr.units) (qv 1) qe_str (nomark _))
      (qss_cons (qs_asg (qv 2) (qg_star (n := 2) (i := 1) (is := [3, 4]) rfl (pgs_cons (pg_name (i := 3) sc_show_meaning.nd rfl (.inl rfl)) (pgs_star (pg_name (i := 4) sc_show_meaning.nd rfl (.inl rfl)) pgs_nil)) (by decide) rfl))
      (qss_cons (qs_asg (qe_lc false rfl sc_show_meaning.nd (qi_seq (qv 4)) (blkOk_by (own := [("way", 10)]) (N := N_show_meaning) (sc := defScope s_show_meaning) (by decide +kernel)) (fun _ _ _ _ _ => (pg_name (i := 10) sc_show_meaning.nd rfl (.inl rfl))) (tg_name (i := 10) (by decide)) (fun _ _ _ _ _ => qts_nil) (fun _ _ _ _ _ => (qe_op (od_add false) (qe_op (od_add false) qe_str (qe_call ih (hr.mono (by omega)) rfl T.g_show_meaning T.F_show_meaning.kp T.b_show_meaning (qa_cons (qv 10) qa_nil))) qe_str))) (qg_of (pg_unl rfl (pgs_cons (pg_name (i := 5) sc_show_meaning.nd rfl (.inl rfl)) (pgs_cons (pg_name (i := 6) sc_show_meaning.nd rfl (.inl rfl)) pgs_nil))) (tg_namesL (is := [5, 6]) (ws := [5, 6]) (by decide) rfl)))
      (qss_one (qs_ret (qe_op (od_add false) (qe_op (od_add false) (qe_op (od_add false) (qe_op (od_add false) (qe_op (od_add false) qe_str (qe_call (ok_show_term T) (hr.mono (by omega)) rfl T.g_show_term T.F_show_term.kp T.b_show_term (qa_cons (qv 3) qa_nil))) qe_str) (qv 5)) qe_str) (qv 6))))))
      qss_nil)
      (qss_cons (qs_asg (qv 2) (qg_of (pg_unl rfl (pgs_cons (pg_name (i := 7) sc_show_meaning.nd rfl (.inl rfl)) (pgs_cons (pg_name (i := 8) sc_show_meaning.nd rfl (.inl rfl)) pgs_nil))) (tg_namesL (is := [7, 8]) (ws := [7, 8]) (by decide) rfl)))
      (qss_cons (qs_setLc true (i := 9) rfl sc_show_meaning.nd rfl rfl (sw_true rfl rfl rfl (by decide +kernel)) (qi_seq (qv 7)) (blkOk_by (own := [("name", 11), ("term", 12)]) (N := N_show_meaning) (sc := defScope s_show_meaning) (by decide +kernel)) (fun _ _ _ _ _ => (pg_tup rfl (pgs_cons (pg_name (i := 11) sc_show_meaning.nd rfl (.inl rfl)) (pgs_cons (pg_name (i := 12) sc_show_meaning.nd rfl (.inl rfl)) pgs_nil)))) (tg_names (is := [11, 12]) (by decide) rfl) (fun _ _ _ _ _ => qts_nil) (fun _ _ _ _ _ => (qe_op (od_add false) (qe_op (od_add false) (qv 11) qe_str) (qe_call (ok_show_term T) (hr.mono (by omega)) rfl T.g_show_term T.F_show_term.kp T.b_show_term (qa_cons (qv 12) qa_nil)))))
      (qss_cons (qs_expr (qe_m PySem.F.plainAttrs_list PySem.F.slot_list_extend PySem.F.type_list_extend md_extend (qv 9) (qa_cons (qe_lc true rfl sc_show_meaning.nd (qi_seq (qv 8)) (blkOk_by (own := [("cell", 13), ("term", 12)]) (N := N_show_meaning) (sc := defScope s_show_meaning) (by decide +kernel)) (fun _ _ _ _ _ => (pg_tup rfl (pgs_cons (pg_name (i := 13) sc_show_meaning.nd rfl (.inl rfl)) (pgs_cons (pg_name (i := 12) sc_show_meaning.nd rfl (.inl rfl)) pgs_nil)))) (tg_names (is := [13, 12]) (by decide) rfl) (fun _ _ _ _ _ => qts_nil) (fun _ _ _ _ _ => (qe_op (od_add false) (qe_op (od_add false) (qe_op (od_add false) qe_str (qe_call (ok_show_term T) (hr.mono (by omega)) rfl T.g_show_term T.F_show_term.kp T.b_show_term (qa_cons (qv 13) qa_nil))) qe_str) (qe_call (ok_show_term T) (hr.mono (by omega)) rfl T.g_show_term T.F_show_term.kp T.b_show_term (qa_cons (qv 12) qa_nil))))) qa_nil)))
      (qss_one (qs_ret (qe_ifExp (qt_cmp (od_ne hr.units) (qv 9) (qe_lst false qa_nil) (nomark _)) (qe_m PySem.F.plainAttrs_str PySem.F.slot_str_join PySem.F.type_str_join md_join qe_str (qa_cons (qv 9) qa_nil)) qe_str)))))))), fun ds G R h => ?_⟩)
  · obtain ⟨M, x, rfl, _⟩ := h; rfl
  · obtain ⟨M, x, rfl, hM, hx, hd, hn7, h⟩ := h
    cases x with
    | doo sets st =>
      have hx0 := hx
      obtain ⟨h1, h2, h3, h4, h5⟩ := hx
      unfold Mn.d
      walk_at "go"
      refine ⟨rfl, ?_⟩
      walk_at "go"
      refine lc_typ setD (fun p => .str (setT p)) True.intro sets [] (fun p hp Q q => ?_) _ ?_
      · have g1 := tm_len7 hM (h2 p hp).1 (h2 p hp).2
        obtain ⟨⟨_, g2⟩, _⟩ := nameOk_iff.mp (hM.nm.1 _ (h4 p hp))
        rw [cds_len] at g2
        unfold setD
        walk_at "go"
        repeat (refine And.intro (line_okT (by simp only [len_app, mn_signs]; omega)) ?_)
        refine go_show_term hM (h2 p hp).1 (h2 p hp).2 ?_
        walk_at "go"
        repeat (refine And.intro (line_okT (by simp only [len_app, mn_signs]; omega)) ?_)
        exact q
      rw [List.nil_append]
      walk_at "go"
      rename_i p np
      refine ⟨by rw [List.length_map, sizeLine_eq]; cases st <;> simp, ?_⟩
      refine lc_typ stD (fun p => .str (stT p)) True.intro st.toList [] (fun p hp Q q => ?_) _ ?_
      · have hq := h3 p (by simpa using hp)
        have g1 := tm_len7 hM hq.1.1 hq.1.2
        have g2 := tm_len7 hM hq.2.1 hq.2.2
        unfold stD
        walk_at "go"
        refine go_show_term hM hq.1.1 hq.1.2 ?_
        walk_at "go"
        repeat (refine And.intro (line_okT (by simp only [len_app, mn_signs, one_signs]; omega)) ?_)
        refine go_show_term hM hq.2.1 hq.2.2 ?_
        walk_at "go"
        repeat (refine And.intro (line_okT (by simp only [len_app, mn_signs, one_signs]; omega)) ?_)
        exact q
      rw [List.nil_append]
      intro q nq
      have hpq : p ≠ q := fr_ne gup_same nq
      refine ext_go (by rw [gup_ne hpq]; exact gup_same) gup_same (by rw [List.length_map, List.length_map, sizeLine_eq]; cases st <;> simp <;> omega) ?_
      have hit : sets.map (fun p => D.str (setT p)) ++ st.toList.map (fun p => D.str (stT p)) = (itemsT sets st).map D.str := by unfold itemsT; rw [List.map_append, List.map_map, List.map_map]; rfl
      rw [hit]
      have hfit := items_fit hM hx0
      have hpy := items_py hM hx0
      walk_at "go"
      refine ne_refE gup_same (strs_pyT hpy) (by have := strs_depT (itemsT sets st); omega) ?_
      simp only [Mn.txt] at h
      by_cases c : itemsT sets st = []
      · rw [decide_eq_false (by rw [c]; simp)]
        rw [if_neg (not_not_intro (show sets.map setT ++ st.toList.map stT = [] from c))] at h
        walk_at "w"
        exact rt_sub (((Sub.new np).news nq).put np) h
      · rw [decide_eq_true (by simpa using c)]
        rw [if_pos (show sets.map setT ++ st.toList.map stT ≠ [] from c)] at h
        walk_at "go"
        refine join_gor (sep := Str.ofString " ; ") (zs := itemsT sets st) gup_same (strsOf_strs _) (by omega) ?_
        exact rt_sub (((Sub.new np).news nq).put np) h
    | ite t m1 m2 =>
      obtain ⟨h1, h2, h3⟩ := hx
      simp only [Mn.lv] at hd
      obtain ⟨n', rfl⟩ : ∃ z, n = z + 1 := ⟨n - 1, by omega⟩
      have l1 := tm_len7 hM h1.1 h1.2
      have l2 := mn_len7 hM h2 (by omega)
      have l3 := mn_len7 hM h3 (by omega)
      unfold Mn.d
      walk_at "go"
      refine hs n' rfl _ _ _ ⟨M, m1, rfl, hM, h2, by omega, by omega, ?_⟩
      walk_at "go"
      repeat (refine And.intro (line_okT (by simp only [len_app, mn_signs]; omega)) ?_)
      walk_at "go"
      refine hs n' rfl _ _ _ ⟨M, m2, rfl, hM, h3, by omega, by omega, ?_⟩
      walk_at "go"
      repeat (refine And.intro (line_okT (by simp only [len_app, mn_signs]; omega)) ?_)
      refine ⟨rfl, ?_⟩
      walk_at "go"
      refine go_show_term hM h1.1 h1.2 ?_
      walk_at "go"
      repeat (refine And.intro (line_okT (by simp only [len_app, mn_signs]; omega)) ?_)
      exact rt_same h
theorem ok_show_meaning_n {P : Program} {w : World} {K : PySem.W.Frag} {mg : Str → Option Value} {base : Heap} {a : Ad} (T : Tx w K mg a) : ∀ n : Nat, FnD P w K mg base (n + 9) a.f_show_meaning a.fd_show_meaning ["meaning"] (sp_show_meaning n)
  | 0 => ok0_show_meaning T (j := 0) fnd_never (by omega) (fun m e => by omega)
  | n + 1 => ok0_show_meaning T (ok_show_meaning_n T n) (by omega) (fun m e ds G R h => by
    have : n = m := by omega
    subst this
    exact h)
theorem ok_show_meaning {P : Program} {w : World} {K : PySem.W.Frag} {mg : Str → Option Value} {base : Heap} {a : Ad} (T : Tx w K mg a) : FnD P w K mg base 16 a.f_show_meaning a.fd_show_meaning ["meaning"] (sp_show_meaning 7) := ok_show_meaning_n T 7
theorem go_show_meaning {M : Mach} {x : Mn} {G : Gp} {R : DK} (hM : M.ok) (hx : x.ok M) (hd : x.lv ≤ 7) (k : R (.str x.txt) G) : sp_show_meaning 7 [x.d] G R := ⟨M, x, rfl, hM, hx, hd, by omega, k⟩
end K19


set_option Elab.async false
set_option linter.all false
set_option maxRecDepth 100000
set_option maxHeartbeats 4000000
set_option autoImplicit false
namespace K19
open PySem PySem.Spec PyProof.Rows L2 DL
local macro_rules | `(tactic| walk_at "d") => `(tactic| dsimp only [dSeq, dNext, dIfS, dRet, dRetN, dAsg, dName, dVar, dC, dOp, dUn, dChain, dB, dAnd, dOr, dNot, dAndV, dOrV, dNotV, dIf, dNil, dCons, dTup, dLst, newL, dCallB, dCall, dCallK, dDrop, dAug, dAugS, dSub, dM, dM0, dSlice, dNoPart, dPart, dLc, dYes, dFor, dIter, dRng1, dEnum, dZipM, srcD, dStar, dInK, dIxK, dLenSet, dRev,
  startD, wipeD, setAll, dNames, List.map_cons, List.map_nil, List.length_cons, List.length_nil, List.replicate, List.cons_append, List.nil_append, List.append_nil, List.getElem?_cons_zero, List.getElem?_cons_succ, List.set_cons_zero, List.set_cons_succ, List.map, Nat.zero_add, Nat.reduceAdd, Nat.reduceSub, Nat.sub_self, Nat.succ_sub_succ_eq_sub])
local macro_rules | `(tactic| walk_at "o") => `(tactic| simp only [dAdd_ii, dAdd_ss, dAdd_tt, dAdd_ll, dMinus_ii, dMul_ii, dMod_ii, dFdiv_ii, dPow_ii, dShl_ii, dNeg_i, dIadd_ii, dLt_ii, dLe_ii, dGt_ii, dGe_ii, dEq_ii, dNe_ii, dEq_ss, dNe_ss, dEq_bb, dNe_bb, dIs_n, dIsNot_n, dMax2_ii, dMin2_ii, dTuple_t, dTuple_l, dList_t, dList_l, dIx_t, dIx_l, dIx_s, dSl_t, dSl_l, dSl_s, newL_f, len_tup, len_lst])
local macro_rules | `(tactic| walk_at "w") => `(tactic| dsimp only [x_var, x_c, x_op, x_un, x_b, x_and, x_or, x_not, x_chain, x_andV, x_orV, x_notV, x_if, x_nil, x_cons, x_tup, x_lst0, x_lst1, x_callB, x_call, x_callK, x_next, x_seq, x_break, x_cont, x_drop, x_ret, x_ifS, x_asg, x_name, x_names, x_sub, x_aug, x_augS, x_for, x_lc0, x_lc1, x_yes, x_noPart, x_part, x_slice, x_iter, it_t, it_l, it_n, it_s, it_r, x_rng1, x_enum, x_rev, x_m, x_m0, x_mX, x_zip, x_star_t, x_star_l, x_lenSet, x_forgo0, x_lcgo0, x_while, x_par, x_sortK,
  br_t, br_f, isB_bl, isI_int, isN_some, slo_some, atL_lst, ix_t, ix_l, ix_n,
  dAdd_ii, dAdd_ss, dAdd_tt, dAdd_ll, dMinus_ii, dMul_ii, dMod_ii, dFdiv_ii, dPow_ii, dShl_ii, dNeg_i, dIadd_ii, dLt_ii, dLe_ii, dGt_ii, dGe_ii, ltE_ii, ltE_ss, srcD, isi_i, isi_s, isi_b, isi_n, isi_t, isi_nt, isi_l, isi2_i, isi2_s, isi2_b, isi2_n, isi2_t, isi2_nt, isi2_l, inon_n, inon_i, inon_s, inon_b, inon_t, inon_l, inon_r, dEq_ii, dNe_ii, dEq_ss, dNe_ss, dEq_bb, dNe_bb, dIs_n, dIsNot_n, dMax2_ii, dMin2_ii, dTuple_t, dTuple_l, dList_t, dList_l, dSl_t, dSl_l, dSl_s, newL_f, newL_t, app_r, int_b, int_i, strI_i, strX_i, strX_s,
  startD, wipeD, setAll, permL, List.filterMap, List.map_cons, List.map_nil, List.length_cons, List.length_nil, List.replicate, List.cons_append, List.nil_append, List.append_nil, List.getElem?_cons_zero, List.getElem?_cons_succ, List.set_cons_zero, List.set_cons_succ, List.map, Nat.zero_add, Nat.reduceAdd, Nat.reduceSub, Nat.sub_self, Nat.succ_sub_succ_eq_sub])
local macro_rules | `(tactic| walk_at "v") => `(tactic| simp only [ofString_inj, String.reduceEq, at_0, at_1, at_2, at_3, at_4, at_5, isN_some, isBB_bl, isB_bl, br_t, br_f, br_not, br_and, br_or, br_dec, ix_r, len_tup, len_lst, len_nt, ltE_key, gup_gup, gup_same, starD_one, cut1, cut2, kt1, kt2, kt3, kt4, kt5, kt6, isTy, String.reduceBEq, Bool.or_false, Bool.false_or, Bool.true_or, Bool.or_true, Bool.and_false, Bool.false_and, Bool.true_and, Bool.and_true, Bool.not_true, Bool.not_false, decide_true, decide_false, eq_self_iff_true, Bool.false_eq_true, Int.reduceAdd, Int.add_zero, if_true, if_false, true_and, and_true])
local macro_rules | `(tactic| walk_at "side") => `(tactic| first | with_reducible assumption | omega | exact mty_up | exact True.intro | (simp only [List.mem_cons, ofString_inj, String.reduceEq, true_or, or_true, List.length_map]; done) | with_reducible exact (rfl : (_ : Nat) = _) | exact (rfl : (_ : Option String) = _) | (refine small_line ?_; omega) | (walk_at "ll"; first | omega | (refine small_line ?_; omega) | fail) | (exact log_small (by omega)) | fail)
local macro_rules | `(tactic| walk_at "x") => `(tactic| fail)
local macro_rules | `(tactic| walk_at "go") => `(tactic| repeat' (first | dsimp only [x_var, x_c, x_op, x_un, x_b, x_and, x_or, x_not, x_chain, x_andV, x_orV, x_notV, x_if, x_nil, x_cons, x_tup, x_lst0, x_lst1, x_callB, x_call, x_callK, x_next, x_seq, x_break, x_cont, x_drop, x_ret, x_ifS, x_asg, x_name, x_names, x_sub, x_aug, x_augS, x_for, x_lc0, x_lc1, x_yes, x_noPart, x_part, x_slice, x_iter, it_t, it_l, it_n, it_s, it_r, x_rng1, x_enum, x_rev, x_m, x_m0, x_mX, x_zip, x_star_t, x_star_l, x_lenSet, x_forgo0, x_lcgo0, x_while, x_par, x_sortK, br_t, br_f, isB_bl, isI_int, isN_some, slo_some, atL_lst, ix_t, ix_l, ix_n, dAdd_ii, dAdd_ss, dAdd_tt, dAdd_ll, dMinus_ii, dMul_ii, dMod_ii, dFdiv_ii, dPow_ii, dShl_ii, dNeg_i, dIadd_ii, dLt_ii, dLe_ii, dGt_ii, dGe_ii, ltE_ii, ltE_ss, srcD, isi_i, isi_s, isi_b, isi_n, isi_t, isi_nt, isi_l, isi2_i, isi2_s, isi2_b, isi2_n, isi2_t, isi2_nt, isi2_l, inon_n, inon_i, inon_s, inon_b, inon_t, inon_l, inon_r, dEq_ii, dNe_ii, dEq_ss, dNe_ss, dEq_bb, dNe_bb, dIs_n, dIsNot_n, dMax2_ii, dMin2_ii, dTuple_t, dTuple_l, dList_t, dList_l, dSl_t, dSl_l, dSl_s, newL_f, newL_t, app_r, int_b, int_i, strI_i, strX_i, strX_s, startD, wipeD, setAll, permL, List.filterMap, List.map_cons, List.map_nil, List.length_cons, List.length_nil, List.replicate, List.cons_append, List.nil_append, List.append_nil, List.getElem?_cons_zero, List.getElem?_cons_succ, List.set_cons_zero, List.set_cons_succ, List.map, Nat.zero_add, Nat.reduceAdd, Nat.reduceSub, Nat.sub_self, Nat.succ_sub_succ_eq_sub] | simp only [ofString_inj, String.reduceEq, at_0, at_1, at_2, at_3, at_4, at_5, isN_some, isBB_bl, isB_bl, br_t, br_f, br_not, br_and, br_or, br_dec, ix_r, len_tup, len_lst, len_nt, ltE_key, gup_gup, gup_same, starD_one, cut1, cut2, kt1, kt2, kt3, kt4, kt5, kt6, isTy, String.reduceBEq, Bool.or_false, Bool.false_or, Bool.true_or, Bool.or_true, Bool.and_false, Bool.false_and, Bool.true_and, Bool.and_true, Bool.not_true, Bool.not_false, decide_true, decide_false, eq_self_iff_true, Bool.false_eq_true, Int.reduceAdd, Int.add_zero, if_true, if_false, true_and, and_true] | walk_at "x" | with_reducible refine kont_go ?_ | with_reducible refine rt_sub (by assumption) ?_ | with_reducible refine rt_lst (by assumption) ?_ | with_reducible refine rt_drop (by assumption) ?_ | with_reducible refine rt_keep (by assumption) (by assumption) ?_ | with_reducible refine rt_same ?_ | (refine fun (p : Addr) (_ : _ = none) => ?_) | refine join_gor gup_same rfl (by walk_at "side") ?_ | with_reducible refine lc_cons ?_ | with_reducible refine for_cons ?_ | refine join_go rfl (by walk_at "side") ?_ | refine And.intro (by first | with_reducible assumption | omega | exact mty_up | exact True.intro | (simp only [List.mem_cons, ofString_inj, String.reduceEq, true_or, or_true, List.length_map]; done) | with_reducible exact (rfl : (_ : Nat) = _) | exact (rfl : (_ : Option String) = _) | (refine small_line ?_; omega) | (walk_at "ll"; first | omega | (refine small_line ?_; omega) | fail) | (exact log_small (by omega)) | fail) ?_ | fail))
local macro_rules | `(tactic| walk_at "ll") => `(tactic| simp only [List.length_map, List.length_append, List.length_cons, List.length_nil, List.map_cons, List.map_nil, List.sum_cons, List.sum_nil, len_app, rng_length, ll_0, ll_1, ll_2, ll_3, ll_4, ll_5, ll_6, ll_7, ll_8, ll_9, ll_10, ll_11, ll_12, ll_13, ll_14, ll_15, ll_16, ll_17, ll_18, ll_19, ll_20, ll_21, ll_22, ll_23, ll_24, ll_25, ll_26, ll_27, ll_28, ll_29, ll_30, ll_31, ll_32, ll_33, ll_34, ll_35, ll_36, ll_37, ll_38, ll_39, ll_40, ll_41, ll_42, ll_43, ll_44, ll_45, ll_46, ll_47, ll_48, ll_49, ll_50, ll_51, ll_52, ll_53, ll_54])
theorem ne_lstT {ds : List D} {G : Gp} {R : DK} (h : pyDs ds = true) (hd : depDs ds ≤ 60) (k : R (.bl (decide (ds ≠ []))) G) : dNe (.lst ds) (.lst []) G R := by
  rw [ne_pure (by simpa only [pyD] using h) rfl (by simp only [depD]; omega) (by simp [depD, depDs])]
  cases ds with
  | nil =>
    rw [show eqD (.lst []) (.lst []) = true by simp [eqD, eqDs]]
    exact k
  | cons x xs =>
    rw [show eqD (.lst (x :: xs)) (.lst []) = false by simp only [eqD, eqDs]]
    exact k
def sp__law_line (n : Nat) : DSp := sp_show_meaning n
theorem law_ite (t : Tm) (m n : Mn) : Str.ofString "if " ++ t.txt ++ Str.ofString " then { " ++ m.txt ++ Str.ofString " } else { " ++ n.txt ++ Str.ofString " }" = (Mn.ite t m n).txt := by
  refine cds_inj ?_
  simp only [Mn.txt, cds_app, List.append_assoc]
  rw [show cds (Str.ofString " then { ") = cds (Str.ofString " then ") ++ cds (Str.ofString "{ ") by decide +kernel, show cds (Str.ofString " } else { ") = cds (Str.ofString " }") ++ (cds (Str.ofString " else ") ++ cds (Str.ofString "{ ")) by decide +kernel]
  simp only [List.append_assoc]
local macro_rules | `(tactic| walk_at "x") => `(tactic| fail)
theorem ok0__law_line {P : Program} {w : World} {K : PySem.W.Frag} {mg : Str → Option Value} {base : Heap} {a : Ad} (T : Tx w K mg a) {n j : Nat} {sp' : DSp} (ih : FnD P w K mg base j a.f__law_line a.fd__law_line ["plan"] sp') (hj : j ≤ n + 8) (hs : ∀ m, n = m + 1 → ∀ ds G R, sp__law_line m ds G R → sp' ds G R) : FnD P w K mg base (n + 9) a.f__law_line a.fd__law_line ["plan"] (sp__law_line n) := by
  refine fun_okD T.F__law_line sc__law_line (fun ds G R h => ?_) (fun cdv A outer s H hr => ⟨_, (qss_cons (qs_if (qt_cmp (od_eq hr.units) (qe_ix xd_ix (qv 0) qe_int (fun _ _ => rfl)) qe_str (nomark _))
      (qss_cons (qs_asg (qe_lc false rfl sc__law_line.nd (qi_seq (qe_slice false (qv 0) (qo_some qe_int) qo_none)) (blkOk_by (own := [("part", 4)]) (N := N__law_line) (sc := defScope s__law_line) (by decide +kernel)) (fun _ _ _ _ _ => (pg_name (i := 4) sc__law_line.nd rfl (.inl rfl))) (tg_name (i := 4) (by decide)) (fun _ _ _ _ _ => qts_nil) (fun _ _ _ _ _ => (qe_call ih (hr.mono (by omega)) rfl T.g__law_line T.F__law_line.kp T.b__law_line (qa_cons (qv 4) qa_nil)))) (qg_of (pg_unl rfl (pgs_cons (pg_name (i := 1) sc__law_line.nd rfl (.inl rfl)) (pgs_cons (pg_name (i := 2) sc__law_line.nd rfl (.inl rfl)) pgs_nil))) (tg_namesL (is := [1, 2]) (ws := [1, 2]) (by decide) rfl)))
      (qss_one (qs_ret (qe_op (od_add false) (qe_op (od_add false) (qe_op (od_add false) (qe_op (od_add false) (qe_op (od_add false) (qe_op (od_add false) qe_str (qe_call (ok__law_shown T) (hr.mono (by omega)) rfl T.g__law_shown T.F__law_shown.kp T.b__law_shown (qa_cons (qe_ix xd_ix (qv 0) qe_int (fun _ _ => rfl)) qa_nil))) qe_str) (qv 1)) qe_str) (qv 2)) qe_str))))
      qss_nil)
      (qss_cons (qs_setLc false (i := 3) rfl sc__law_line.nd rfl rfl (sw_true rfl rfl rfl (by decide +kernel)) (qi_seq (qe_ix xd_ix (qv 0) qe_int (fun _ _ => rfl))) (blkOk_by (own := [("name", 5), ("term", 6)]) (N := N__law_line) (sc := defScope s__law_line) (by decide +kernel)) (fun _ _ _ _ _ => (pg_tup rfl (pgs_cons (pg_name (i := 5) sc__law_line.nd rfl (.inl rfl)) (pgs_cons (pg_name (i := 6) sc__law_line.nd rfl (.inl rfl)) pgs_nil)))) (tg_names (is := [5, 6]) (by decide) rfl) (fun _ _ _ _ _ => qts_nil) (fun _ _ _ _ _ => (qe_op (od_add false) (qe_op (od_add false) (qv 5) qe_str) (qe_call (ok__law_shown T) (hr.mono (by omega)) rfl T.g__law_shown T.F__law_shown.kp T.b__law_shown (qa_cons (qv 6) qa_nil)))))
      (qss_cons (qs_set (i := 3) sc__law_line.nd rfl (.inl rfl) (qe_op (od_add false) (qv 3) (qe_lc false rfl sc__law_line.nd (qi_seq (qe_ix xd_ix (qv 0) qe_int (fun _ _ => rfl))) (blkOk_by (own := [("cell", 7), ("term", 6)]) (N := N__law_line) (sc := defScope s__law_line) (by decide +kernel)) (fun _ _ _ _ _ => (pg_tup rfl (pgs_cons (pg_name (i := 7) sc__law_line.nd rfl (.inl rfl)) (pgs_cons (pg_name (i := 6) sc__law_line.nd rfl (.inl rfl)) pgs_nil)))) (tg_names (is := [7, 6]) (by decide) rfl) (fun _ _ _ _ _ => qts_nil) (fun _ _ _ _ _ => (qe_op (od_add false) (qe_op (od_add false) (qe_op (od_add false) qe_str (qe_call (ok__law_shown T) (hr.mono (by omega)) rfl T.g__law_shown T.F__law_shown.kp T.b__law_shown (qa_cons (qv 7) qa_nil))) qe_str) (qe_call (ok__law_shown T) (hr.mono (by omega)) rfl T.g__law_shown T.F__law_shown.kp T.b__law_shown (qa_cons (qv 6) qa_nil)))))))
      (qss_one (qs_ret (qe_ifExp (qt_cmp (od_ne hr.units) (qv 3) (qe_lst false qa_nil) (nomark _)) (qe_m PySem.F.plainAttrs_str PySem.F.slot_str_join PySem.F.type_str_join md_join qe_str (qa_cons (qv 3) qa_nil)) qe_str)))))), fun ds G R h => ?_⟩)
  · obtain ⟨M, x, rfl, _⟩ := h; rfl
  · obtain ⟨M, x, rfl, hM, hx, hd, hn7, h⟩ := h
    cases x with
    | doo sets st =>
      have hx0 := hx
      obtain ⟨h1, h2, h3, h4, h5⟩ := hx
      have hfit := items_fit hM hx0
      have hpy := items_py hM hx0
      unfold Mn.d
      walk_at "go"
      refine lc_typ setD (fun p => .str (setT p)) True.intro sets [] (fun p hp Q q => ?_) _ ?_
      · have g1 := tm_len7 hM (h2 p hp).1 (h2 p hp).2
        obtain ⟨⟨_, g2⟩, _⟩ := nameOk_iff.mp (hM.nm.1 _ (h4 p hp))
        rw [cds_len] at g2
        unfold setD
        walk_at "go"
        repeat (refine And.intro (line_okT (by simp only [len_app, mn_signs]; omega)) ?_)
        refine go_lshown hM (h2 p hp).1 (h2 p hp).2 ?_
        walk_at "go"
        repeat (refine And.intro (line_okT (by simp only [len_app, mn_signs]; omega)) ?_)
        exact q
      rw [List.nil_append]
      walk_at "go"
      refine ⟨by rw [List.length_map, sizeLine_eq]; cases st <;> simp, ?_⟩
      refine lc_typ stD (fun p => .str (stT p)) True.intro st.toList [] (fun p hp Q q => ?_) _ ?_
      · have hq := h3 p (by simpa using hp)
        have g1 := tm_len7 hM hq.1.1 hq.1.2
        have g2 := tm_len7 hM hq.2.1 hq.2.2
        unfold stD
        walk_at "go"
        refine go_lshown hM hq.1.1 hq.1.2 ?_
        walk_at "go"
        repeat (refine And.intro (line_okT (by simp only [len_app, mn_signs, one_signs]; omega)) ?_)
        refine go_lshown hM hq.2.1 hq.2.2 ?_
        walk_at "go"
        repeat (refine And.intro (line_okT (by simp only [len_app, mn_signs, one_signs]; omega)) ?_)
        exact q
      rw [List.nil_append]
      have hit : sets.map (fun p => D.str (setT p)) ++ st.toList.map (fun p => D.str (stT p)) = (itemsT sets st).map D.str := by unfold itemsT; rw [List.map_append, List.map_map, List.map_map]; rfl
      rw [hit]
      refine ⟨by rw [List.length_map, List.length_map, sizeLine_eq]; cases st <;> simp <;> omega, ?_⟩
      walk_at "go"
      refine ne_lstT (strs_pyT hpy) (by have := strs_depT (itemsT sets st); omega) ?_
      simp only [Mn.txt] at h
      by_cases c : itemsT sets st = []
      · rw [decide_eq_false (by rw [c]; simp)]
        rw [if_neg (not_not_intro (show sets.map setT ++ st.toList.map stT = [] from c))] at h
        walk_at "w"
        exact rt_same h
      · rw [decide_eq_true (by simpa using c)]
        rw [if_pos (show sets.map setT ++ st.toList.map stT ≠ [] from c)] at h
        walk_at "go"
        refine join_go (sep := Str.ofString " ; ") (zs := itemsT sets st) (strsOf_strs _) (by omega) ?_
        exact rt_same h
    | ite t m1 m2 =>
      obtain ⟨h1, h2, h3⟩ := hx
      simp only [Mn.lv] at hd
      obtain ⟨n', rfl⟩ : ∃ z, n = z + 1 := ⟨n - 1, by omega⟩
      have l1 := tm_len7 hM h1.1 h1.2
      have l2 := mn_len7 hM h2 (by omega)
      have l3 := mn_len7 hM h3 (by omega)
      rw [← law_ite] at h
      unfold Mn.d
      walk_at "go"
      refine hs n' rfl _ _ _ ⟨M, m1, rfl, hM, h2, by omega, by omega, ?_⟩
      walk_at "go"
      refine hs n' rfl _ _ _ ⟨M, m2, rfl, hM, h3, by omega, by omega, ?_⟩
      walk_at "go"
      refine ⟨rfl, ?_⟩
      walk_at "go"
      refine go_lshown hM h1.1 h1.2 ?_
      walk_at "go"
      repeat (refine And.intro (line_okT (by simp only [len_app, mn_signs]; omega)) ?_)
      exact rt_same h
theorem ok__law_line_n {P : Program} {w : World} {K : PySem.W.Frag} {mg : Str → Option Value} {base : Heap} {a : Ad} (T : Tx w K mg a) : ∀ n : Nat, FnD P w K mg base (n + 9) a.f__law_line a.fd__law_line ["plan"] (sp__law_line n)
  | 0 => ok0__law_line T (j := 0) fnd_never (by omega) (fun m e => by omega)
  | n + 1 => ok0__law_line T (ok__law_line_n T n) (by omega) (fun m e ds G R h => by
    have : n = m := by omega
    subst this
    exact h)
theorem ok__law_line {P : Program} {w : World} {K : PySem.W.Frag} {mg : Str → Option Value} {base : Heap} {a : Ad} (T : Tx w K mg a) : FnD P w K mg base 16 a.f__law_line a.fd__law_line ["plan"] (sp__law_line 7) := ok__law_line_n T 7
theorem go_lline {M : Mach} {x : Mn} {G : Gp} {R : DK} (hM : M.ok) (hx : x.ok M) (hd : x.lv ≤ 7) (k : R (.str x.txt) G) : sp__law_line 7 [x.d] G R := ⟨M, x, rfl, hM, hx, hd, by omega, k⟩
end K19


set_option Elab.async false
set_option linter.all false
set_option maxRecDepth 100000
set_option maxHeartbeats 4000000
set_option autoImplicit false
namespace K19
open PySem PySem.Spec PyProof.Rows L2 DL
local macro_rules | `(tactic| walk_at "d") => `(tactic| dsimp only [dSeq, dNext, dIfS, dRet, dRetN, dAsg, dName, dVar, dC, dOp, dUn, dChain, dB, dAnd, dOr, dNot, dAndV, dOrV, dNotV, dIf, dNil, dCons, dTup, dLst, newL, dCallB, dCall, dCallK, dDrop, dAug, dAugS, dSub, dM, dM0, dSlice, dNoPart, dPart, dLc, dYes, dFor, dIter, dRng1, dEnum, dZipM, srcD, dStar, dInK, dIxK, dLenSet, dRev,
  startD, wipeD, setAll, dNames, List.map_cons, List.map_nil, List.length_cons, List.length_nil, List.replicate, List.cons_append, List.nil_append, List.append_nil, List.getElem?_cons_zero, List.getElem?_cons_succ, List.set_cons_zero, List.set_cons_succ, List.map, Nat.zero_add, Nat.reduceAdd, Nat.reduceSub, Nat.sub_self, Nat.succ_sub_succ_eq_sub])
local macro_rules | `(tactic| walk_at "o") => `(tactic| simp only [dAdd_ii, dAdd_ss, dAdd_tt, dAdd_ll, dMinus_ii, dMul_ii, dMod_ii, dFdiv_ii, dPow_ii, dShl_ii, dNeg_i, dIadd_ii, dLt_ii, dLe_ii, dGt_ii, dGe_ii, dEq_ii, dNe_ii, dEq_ss, dNe_ss, dEq_bb, dNe_bb, dIs_n, dIsNot_n, dMax2_ii, dMin2_ii, dTuple_t, dTuple_l, dList_t, dList_l, dIx_t, dIx_l, dIx_s, dSl_t, dSl_l, dSl_s, newL_f, len_tup, len_lst])
local macro_rules | `(tactic| walk_at "w") => `(tactic| dsimp only [x_var, x_c, x_op, x_un, x_b, x_and, x_or, x_not, x_chain, x_andV, x_orV, x_notV, x_if, x_nil, x_cons, x_tup, x_lst0, x_lst1, x_callB, x_call, x_callK, x_next, x_seq, x_break, x_cont, x_drop, x_ret, x_ifS, x_asg, x_name, x_names, x_sub, x_aug, x_augS, x_for, x_lc0, x_lc1, x_yes, x_noPart, x_part, x_slice, x_iter, it_t, it_l, it_n, it_s, it_r, x_rng1, x_enum, x_rev, x_m, x_m0, x_mX, x_zip, x_star_t, x_star_l, x_lenSet, x_forgo0, x_lcgo0, x_while, x_par, x_sortK,
  br_t, br_f, isB_bl, isI_int, isN_some, slo_some, atL_lst, ix_t, ix_l, ix_n,
  dAdd_ii, dAdd_ss, dAdd_tt, dAdd_ll, dMinus_ii, dMul_ii, dMod_ii, dFdiv_ii, dPow_ii, dShl_ii, dNeg_i, dIadd_ii, dLt_ii, dLe_ii, dGt_ii, dGe_ii, ltE_ii, ltE_ss, srcD, isi_i, isi_s, isi_b, isi_n, isi_t, isi_nt, isi_l, isi2_i, isi2_s, isi2_b, isi2_n, isi2_t, isi2_nt, isi2_l, inon_n, inon_i, inon_s, inon_b, inon_t, inon_l, inon_r, dEq_ii, dNe_ii, dEq_ss, dNe_ss, dEq_bb, dNe_bb, dIs_n, dIsNot_n, dMax2_ii, dMin2_ii, dTuple_t, dTuple_l, dList_t, dList_l, dSl_t, dSl_l, dSl_s, newL_f, newL_t, app_r, int_b, int_i, strI_i, strX_i, strX_s,
  startD, wipeD, setAll, permL, List.filterMap, List.map_cons, List.map_nil, List.length_cons, List.length_nil, List.replicate, List.cons_append, List.nil_append, List.append_nil, List.getElem?_cons_zero, List.getElem?_cons_succ, List.set_cons_zero, List.set_cons_succ, List.map, Nat.zero_add, Nat.reduceAdd, Nat.reduceSub, Nat.sub_self, Nat.succ_sub_succ_eq_sub])
local macro_rules | `(tactic| walk_at "v") => `(tactic| simp only [ofString_inj, String.reduceEq, at_0, at_1, at_2, at_3, at_4, at_5, isN_some, isBB_bl, isB_bl, br_t, br_f, br_not, br_and, br_or, br_dec, ix_r, len_tup, len_lst, len_nt, ltE_key, gup_gup, gup_same, starD_one, cut1, cut2, kt1, kt2, kt3, kt4, kt5, kt6, isTy, String.reduceBEq, Bool.or_false, Bool.false_or, Bool.true_or, Bool.or_true, Bool.and_false, Bool.false_and, Bool.true_and, Bool.and_true, Bool.not_true, Bool.not_false, decide_true, decide_false, eq_self_iff_true, Bool.false_eq_true, Int.reduceAdd, Int.add_zero, if_true, if_false, true_and, and_true])
local macro_rules | `(tactic| walk_at "side") => `(tactic| first | with_reducible assumption | omega | exact mty_up | exact True.intro | (simp only [List.mem_cons, ofString_inj, String.reduceEq, true_or, or_true, List.length_map]; done) | with_reducible exact (rfl : (_ : Nat) = _) | exact (rfl : (_ : Option String) = _) | (refine small_line ?_; omega) | (walk_at "ll"; first | omega | (refine small_line ?_; omega) | fail) | (exact log_small (by omega)) | fail)
local macro_rules | `(tactic| walk_at "x") => `(tactic| fail)
local macro_rules | `(tactic| walk_at "go") => `(tactic| repeat' (first | dsimp only [x_var, x_c, x_op, x_un, x_b, x_and, x_or, x_not, x_chain, x_andV, x_orV, x_notV, x_if, x_nil, x_cons, x_tup, x_lst0, x_lst1, x_callB, x_call, x_callK, x_next, x_seq, x_break, x_cont, x_drop, x_ret, x_ifS, x_asg, x_name, x_names, x_sub, x_aug, x_augS, x_for, x_lc0, x_lc1, x_yes, x_noPart, x_part, x_slice, x_iter, it_t, it_l, it_n, it_s, it_r, x_rng1, x_enum, x_rev, x_m, x_m0, x_mX, x_zip, x_star_t, x_star_l, x_lenSet, x_forgo0, x_lcgo0, x_while, x_par, x_sortK, br_t, br_f, isB_bl, isI_int, isN_some, slo_some, atL_lst, ix_t, ix_l, ix_n, dAdd_ii, dAdd_ss, dAdd_tt, dAdd_ll, dMinus_ii, dMul_ii, dMod_ii, dFdiv_ii, dPow_ii, dShl_ii, dNeg_i, dIadd_ii, dLt_ii, dLe_ii, dGt_ii, dGe_ii, ltE_ii, ltE_ss, srcD, isi_i, isi_s, isi_b, isi_n, isi_t, isi_nt, isi_l, isi2_i, isi2_s, isi2_b, isi2_n, isi2_t, isi2_nt, isi2_l, inon_n, inon_i, inon_s, inon_b, inon_t, inon_l, inon_r, dEq_ii, dNe_ii, dEq_ss, dNe_ss, dEq_bb, dNe_bb, dIs_n, dIsNot_n, dMax2_ii, dMin2_ii, dTuple_t, dTuple_l, dList_t, dList_l, dSl_t, dSl_l, dSl_s, newL_f, newL_t, app_r, int_b, int_i, strI_i, strX_i, strX_s, startD, wipeD, setAll, permL, List.filterMap, List.map_cons, List.map_nil, List.length_cons, List.length_nil, List.replicate, List.cons_append, List.nil_append, List.append_nil, List.getElem?_cons_zero, List.getElem?_cons_succ, List.set_cons_zero, List.set_cons_succ, List.map, Nat.zero_add, Nat.reduceAdd, Nat.reduceSub, Nat.sub_self, Nat.succ_sub_succ_eq_sub] | simp only [ofString_inj, String.reduceEq, at_0, at_1, at_2, at_3, at_4, at_5, isN_some, isBB_bl, isB_bl, br_t, br_f, br_not, br_and, br_or, br_dec, ix_r, len_tup, len_lst, len_nt, ltE_key, gup_gup, gup_same, starD_one, cut1, cut2, kt1, kt2, kt3, kt4, kt5, kt6, isTy, String.reduceBEq, Bool.or_false, Bool.false_or, Bool.true_or, Bool.or_true, Bool.and_false, Bool.false_and, Bool.true_and, Bool.and_true, Bool.not_true, Bool.not_false, decide_true, decide_false, eq_self_iff_true, Bool.false_eq_true, Int.reduceAdd, Int.add_zero, if_true, if_false, true_and, and_true] | walk_at "x" | with_reducible refine kont_go ?_ | with_reducible refine rt_sub (by assumption) ?_ | with_reducible refine rt_lst (by assumption) ?_ | with_reducible refine rt_drop (by assumption) ?_ | with_reducible refine rt_keep (by assumption) (by assumption) ?_ | with_reducible refine rt_same ?_ | (refine fun (p : Addr) (_ : _ = none) => ?_) | refine join_gor gup_same rfl (by walk_at "side") ?_ | with_reducible refine lc_cons ?_ | with_reducible refine for_cons ?_ | refine join_go rfl (by walk_at "side") ?_ | refine And.intro (by first | with_reducible assumption | omega | exact mty_up | exact True.intro | (simp only [List.mem_cons, ofString_inj, String.reduceEq, true_or, or_true, List.length_map]; done) | with_reducible exact (rfl : (_ : Nat) = _) | exact (rfl : (_ : Option String) = _) | (refine small_line ?_; omega) | (walk_at "ll"; first | omega | (refine small_line ?_; omega) | fail) | (exact log_small (by omega)) | fail) ?_ | fail))
local macro_rules | `(tactic| walk_at "ll") => `(tactic| simp only [List.length_map, List.length_append, List.length_cons, List.length_nil, List.map_cons, List.map_nil, List.sum_cons, List.sum_nil, len_app, rng_length, ll_0, ll_1, ll_2, ll_3, ll_4, ll_5, ll_6, ll_7, ll_8, ll_9, ll_10, ll_11, ll_12, ll_13, ll_14, ll_15, ll_16, ll_17, ll_18, ll_19, ll_20, ll_21, ll_22, ll_23, ll_24, ll_25, ll_26, ll_27, ll_28, ll_29, ll_30, ll_31, ll_32, ll_33, ll_34, ll_35, ll_36, ll_37, ll_38, ll_39, ll_40, ll_41, ll_42, ll_43, ll_44, ll_45, ll_46, ll_47, ll_48, ll_49, ll_50, ll_51, ll_52, ll_53, ll_54])
/-! ### meanings are meanings -/
theorem name_pl {z : Str} (h : nameOk z = true) : plD (.str z) = true := by
  refine pl_str.mpr ⟨by have := name_len h; omega, ?_⟩
  have := name_pyS h
  simpa only [pyD, List.all_eq_true, decide_eq_true_eq] using this
theorem op_pl : ∀ op ∈ opL, plD (.str op) = true := by decide +kernel
theorem Tm.pl {M : Mach} (hM : M.ok) : ∀ {t : Tm}, t.ok M → plD t.d = true
  | .num w, h => by
    have h0 : plD (.str "num") = true := by decide +kernel
    have h1 : plD (.int w) = true := rfl
    exact pl_tup.mpr ⟨by simp, by simp [h0, h1]⟩
  | .reg x, h => by
    have h0 : plD (.str "reg") = true := by decide +kernel
    have := name_pl (hM.nm.1 x h)
    exact pl_tup.mpr ⟨by simp, by simp [h0, this]⟩
  | .load t, h => by
    have h0 : plD (.str "load") = true := by decide +kernel
    have := Tm.pl hM (t := t) h
    exact pl_tup.mpr ⟨by simp, by simp [h0, this]⟩
  | .op o t u, h => by
    have h0 := op_pl o h.1
    have h1 := Tm.pl hM (t := t) h.2.1
    have h2 := Tm.pl hM (t := u) h.2.2
    exact pl_tup.mpr ⟨by simp, by simp [h0, h1, h2]⟩
theorem isTm_ok {M : Mach} : ∀ {t : Tm} {n : Nat}, t.ok M → t.dep ≤ n → isTm M n t.d = true
  | .num w, n, h, hd => by
    obtain ⟨m, rfl⟩ : ∃ m, n = m + 1 := ⟨n - 1, by simp only [Tm.dep] at hd; omega⟩
    have h : (w : Int) < 2 ^ M.b.toNat := h
    simp only [Tm.d, isTm, ofString_inj, String.reduceEq, if_true, if_false, wordB, isWithin, Bool.and_eq_true, decide_eq_true_eq]
    omega
  | .reg x, n, h, hd => by
    obtain ⟨m, rfl⟩ : ∃ m, n = m + 1 := ⟨n - 1, by simp only [Tm.dep] at hd; omega⟩
    simp only [Tm.d, isTm, if_true, inN]
    exact decide_eq_true h
  | .load t, n, h, hd => by
    obtain ⟨m, rfl⟩ : ∃ m, n = m + 1 := ⟨n - 1, by simp only [Tm.dep] at hd; omega⟩
    simp only [Tm.d, isTm, ofString_inj, String.reduceEq, if_true, if_false, decide_true, Bool.true_and]
    exact isTm_ok (t := t) h (by simp only [Tm.dep] at hd; omega)
  | .op o t u, n, h, hd => by
    obtain ⟨m, rfl⟩ : ∃ m, n = m + 1 := ⟨n - 1, by simp only [Tm.dep] at hd; omega⟩
    simp only [Tm.dep] at hd
    simp only [Tm.d, isTm, decide_eq_true h.1, Bool.true_and, isTm_ok (t := t) h.2.1 (show t.dep ≤ m by omega), isTm_ok (t := u) h.2.2 (show u.dep ≤ m by omega)]
theorem isDn_doo {M : Mach} {sets : List (Str × Tm)} {st : Option (Tm × Tm)} {k : Nat} (h1 : ∀ p ∈ sets, p.1 ∈ M.names ∧ p.2.ok M ∧ p.2.dep ≤ k) (h2 : (sets.map (·.1)).Nodup) (h3 : ∀ p ∈ st, (p.1.ok M ∧ p.1.dep ≤ k) ∧ p.2.ok M ∧ p.2.dep ≤ k) : isDn M (k + 1) (Mn.doo sets st).d = true := by
  have e1 : areSets M k (.tup (sets.map setD)) = true := by
    simp only [areSets, Bool.and_eq_true, List.all_map, List.all_eq_true, Function.comp, setD, setOk, decide_eq_true_eq, List.map_map]
    exact ⟨fun p hp => ⟨(h1 p hp).1, isTm_ok (h1 p hp).2.1 (h1 p hp).2.2⟩, h2⟩
  have e2 : areSto M k (.tup (st.toList.map stD)) = true := by
    cases st with
    | none => rfl
    | some p =>
      have := h3 p rfl
      simp only [Option.toList_some, List.map_cons, List.map_nil, stD, areSto, isTm_ok this.1.1 this.1.2, isTm_ok this.2.1 this.2.2, Bool.and_self]
  simp only [Mn.d, isDn, e1, e2, decide_true, Bool.and_self]
theorem isDn_ite {M : Mach} {t : Tm} {m n : Mn} {k : Nat} (h1 : t.ok M ∧ t.dep ≤ k) (h2 : isDn M k m.d = true) (h3 : isDn M k n.d = true) : isDn M (k + 1) (Mn.ite t m n).d = true := by
  simp only [Mn.d, isDn, isTm_ok h1.1 h1.2, h2, h3, decide_true, Bool.and_self]
theorem Mn.pl {M : Mach} (hM : M.ok) : ∀ {m : Mn}, m.ok M → plD m.d = true
  | .doo sets st, h => by
    obtain ⟨hl, h1, h2, h3, _⟩ := h
    have hd : plD (.str "do") = true := by decide +kernel
    have e1 : plD (.tup (sets.map setD)) = true := pl_tup.mpr ⟨by rw [List.length_map]; omega, fun d hd => by
      obtain ⟨p, hp, rfl⟩ := List.mem_map.mp hd
      have a1 := name_pl (hM.nm.1 _ (h3 p hp))
      have a2 := Tm.pl hM (h1 p hp).1
      exact pl_tup.mpr ⟨by simp, by simp [a1, a2]⟩⟩
    have e2 : plD (.tup (st.toList.map stD)) = true := by
      cases st with
      | none => rfl
      | some p =>
        have := h2 p rfl
        have a1 := Tm.pl hM this.1.1
        have a2 := Tm.pl hM this.2.1
        refine pl_tup.mpr ⟨by simp, ?_⟩
        intro d hd
        simp only [Option.toList_some, List.map_cons, List.map_nil, List.mem_singleton] at hd
        subst hd
        exact pl_tup.mpr ⟨by simp, by simp [a1, a2]⟩
    exact pl_tup.mpr ⟨by simp, by simp [hd, e1, e2]⟩
  | .ite t m n, h => by
    have hd : plD (.str "if") = true := by decide +kernel
    have e1 := Tm.pl hM h.1.1
    have e2 := Mn.pl hM (m := m) h.2.1
    have e3 := Mn.pl hM (m := n) h.2.2
    exact pl_tup.mpr ⟨by simp, by simp [hd, e1, e2, e3]⟩
theorem isDn_okT {M : Mach} : ∀ {m : Mn} {k : Nat}, m.ok M → m.lvl ≤ k → isDn M k m.d = true
  | .doo sets st, k, h, hl => by
    obtain ⟨h1, h2, h3, h4, h5⟩ := h
    simp only [Mn.lvl] at hl
    obtain ⟨k, rfl⟩ : ∃ z, k = z + 1 := ⟨k - 1, by omega⟩
    refine isDn_doo (fun p hp => ⟨h4 p hp, (h2 p hp).1, by have := setsL_mem hp; omega⟩) h5 fun p hp => ?_
    have h6 := h3 p hp
    have h7 : st = some p := hp
    rw [h7] at hl
    simp only [stL] at hl
    exact ⟨⟨h6.1.1, by omega⟩, h6.2.1, by omega⟩
  | .ite t m n, k, h, hl => by
    obtain ⟨h1, h2, h3⟩ := h
    simp only [Mn.lvl] at hl
    obtain ⟨k, rfl⟩ : ∃ z, k = z + 1 := ⟨k - 1, by omega⟩
    exact isDn_ite ⟨h1.1, by omega⟩ (isDn_okT h2 (by omega)) (isDn_okT h3 (by omega))
def sp_is_meaning : DSp := fun ds G R => ∃ (M : Mach) (x : D), ds = [M.d, x] ∧ M.ok ∧ plD x = true ∧ R (.bl (isDn M 6 x)) G
local macro_rules | `(tactic| walk_at "x") => `(tactic| fail)
theorem ok_is_meaning {P : Program} {w : World} {K : PySem.W.Frag} {mg : Str → Option Value} {base : Heap} {a : Ad} (T : Tx w K mg a) : FnD P w K mg base 21 a.f_is_meaning a.fd_is_meaning ["machine", "thing"] sp_is_meaning := by
  refine fun_okD T.F_is_meaning sc_is_meaning (fun ds G R h => ?_) (fun cdv A outer s H hr => ⟨_, (qss_one (qs_ret (qe_call (ok_is_done T) (hr.mono (by omega)) rfl T.g_is_done T.F_is_done.kp T.b_is_done (qa_cons (qv 0) (qa_cons (qv 1) (qa_cons (qe_globI rfl T.c_MOST_LEVELS) qa_nil)))))), fun ds G R h => ?_⟩)
  · obtain ⟨M, x, rfl, _⟩ := h; rfl
  · obtain ⟨M, x, rfl, hM, hx, h⟩ := h
    walk_at "go"
    exact ⟨M, x, 6, rfl, hM, hx, by omega, by omega, rt_same h⟩
theorem go_is_meaning {M : Mach} {x : D} {G : Gp} {R : DK} (hM : M.ok) (hx : plD x = true) (q : R (.bl (isDn M 6 x)) G) : sp_is_meaning [M.d, x] G R := ⟨M, x, rfl, hM, hx, q⟩
/-! ### a meaning read back -/
def sp_read_meaning (a : Ad) : DSp := fun ds G R => ∃ (M : Mach) (x : Mn), ds = [M.d, .str x.txt] ∧ M.ok ∧ x.ok M ∧ x.lvl ≤ 6 ∧ R x.d G
local macro_rules | `(tactic| walk_at "x") => `(tactic| first | dsimp only [x_make, x_meth, x_meth0D] | fail)
theorem ok_read_meaning {P : Program} {w : World} {K : PySem.W.Frag} {mg : Str → Option Value} {base : Heap} {a : Ad} (T : Tx w K mg a) : FnD P w K mg base 27 a.f_read_meaning a.fd_read_meaning ["machine", "text"] (sp_read_meaning a) := by
  refine fun_okD T.F_read_meaning sc_read_meaning (fun ds G R h => ?_) (fun cdv A outer s H hr => ⟨_, (qss_cons (qs_set (i := 2) sc_read_meaning.nd rfl (.inl rfl) (qe_make T.M_Reader (ok_Reader___init__ T) (hr.mono (by omega)) rfl T.gc_Reader T.b_Reader___init__ (qa_cons (qe_call (ok_words_in T) (hr.mono (by omega)) rfl T.g_words_in T.F_words_in.kp T.b_words_in (qa_cons (qv 1) qa_nil)) qa_nil)))
      (qss_cons (qs_set (i := 3) sc_read_meaning.nd rfl (.inl rfl) (qe_meth (qv 2) T.cl_Reader T.m_Reader_meaning (ok_Reader_meaning T) (hr.mono (by omega)) T.b_Reader_meaning (qa_cons (qe_globI rfl T.c_MOST_LEVELS) qa_nil)))
      (qss_cons (qs_if (QW.pt (qw_or (qt_cmp (od_ne hr.units) (qe_meth0D [.int 0] [.int 0] (rds_i 0) (qv 2) T.cl_Reader T.m_Reader_ahead (ok_Reader_ahead T) (hr.mono (by omega)) T.bd_Reader_ahead) qe_str (nomark _)) (qw_or (qt_not (qt_val (qe_call (ok_is_meaning T) (hr.mono (by omega)) rfl T.g_is_meaning T.F_is_meaning.kp T.b_is_meaning (qa_cons (qv 0) (qa_cons (qv 3) qa_nil))))) (qw_or1 (qt_cmp (od_ne hr.units) (qe_call (ok_show_meaning T) (hr.mono (by omega)) rfl T.g_show_meaning T.F_show_meaning.kp T.b_show_meaning (qa_cons (qv 3) qa_nil)) (qv 1) (nomark _))))))
      (qss_one qs_never)
      qss_nil)
      (qss_one (qs_ret (qv 3)))))), fun ds G R h => ?_⟩)
  · obtain ⟨M, x, rfl, _⟩ := h; rfl
  · obtain ⟨M, x, rfl, hM, hx, hl, h⟩ := h
    have hlv : x.lv ≤ 7 := by have := x.lv_lvl; omega
    have hln := mn_len7 hM hx hlv
    walk_at "go"
    refine go_words (by omega) ?_
    rw [words_mn hM hx]
    intro p dx np
    refine ⟨p, dx, x.tok, rfl, gup_same, ?_⟩
    refine ⟨rfl, ?_⟩
    rw [gup_gup]
    walk_at "go"
    refine ⟨p, dx, _, rfl, gup_same, rfl, ?_⟩
    refine ⟨M, p, dx, x.tok, 0, 6, x, [], [], rfl, hM, hx, hl, by omega, by omega, .inl rfl, gup_same, by simp, rfl, ?_⟩
    rw [gup_gup]
    walk_at "go"
    refine ah_go (many := 0) gup_same (w := Str.ofString "") (by rw [List.getElem?_eq_none (by omega)]; rfl) ?_
    walk_at "go"
    refine go_is_meaning hM (Mn.pl hM hx) ?_
    rw [isDn_okT hx hl]
    walk_at "go"
    refine go_show_meaning hM hx hlv ?_
    walk_at "go"
    exact h
theorem go_read_meaning {a : Ad} {M : Mach} {x : Mn} {G : Gp} {R : DK} (hM : M.ok) (hx : x.ok M) (hl : x.lvl ≤ 6) (h : R x.d G) : sp_read_meaning a [M.d, .str x.txt] G R := ⟨M, x, rfl, hM, hx, hl, h⟩
end K19


set_option Elab.async false
set_option linter.all false
set_option maxRecDepth 100000
set_option maxHeartbeats 4000000
set_option autoImplicit false
namespace K19
open PySem PySem.Spec PyProof.Rows L2 DL
local macro_rules | `(tactic| walk_at "d") => `(tactic| dsimp only [dSeq, dNext, dIfS, dRet, dRetN, dAsg, dName, dVar, dC, dOp, dUn, dChain, dB, dAnd, dOr, dNot, dAndV, dOrV, dNotV, dIf, dNil, dCons, dTup, dLst, newL, dCallB, dCall, dCallK, dDrop, dAug, dAugS, dSub, dM, dM0, dSlice, dNoPart, dPart, dLc, dYes, dFor, dIter, dRng1, dEnum, dZipM, srcD, dStar, dInK, dIxK, dLenSet, dRev,
  startD, wipeD, setAll, dNames, List.map_cons, List.map_nil, List.length_cons, List.length_nil, List.replicate, List.cons_append, List.nil_append, List.append_nil, List.getElem?_cons_zero, List.getElem?_cons_succ, List.set_cons_zero, List.set_cons_succ, List.map, Nat.zero_add, Nat.reduceAdd, Nat.reduceSub, Nat.sub_self, Nat.succ_sub_succ_eq_sub])
local macro_rules | `(tactic| walk_at "o") => `(tactic| simp only [dAdd_ii, dAdd_ss, dAdd_tt, dAdd_ll, dMinus_ii, dMul_ii, dMod_ii, dFdiv_ii, dPow_ii, dShl_ii, dNeg_i, dIadd_ii, dLt_ii, dLe_ii, dGt_ii, dGe_ii, dEq_ii, dNe_ii, dEq_ss, dNe_ss, dEq_bb, dNe_bb, dIs_n, dIsNot_n, dMax2_ii, dMin2_ii, dTuple_t, dTuple_l, dList_t, dList_l, dIx_t, dIx_l, dIx_s, dSl_t, dSl_l, dSl_s, newL_f, len_tup, len_lst])
local macro_rules | `(tactic| walk_at "w") => `(tactic| dsimp only [x_var, x_c, x_op, x_un, x_b, x_and, x_or, x_not, x_chain, x_andV, x_orV, x_notV, x_if, x_nil, x_cons, x_tup, x_lst0, x_lst1, x_callB, x_call, x_callK, x_next, x_seq, x_break, x_cont, x_drop, x_ret, x_ifS, x_asg, x_name, x_names, x_sub, x_aug, x_augS, x_for, x_lc0, x_lc1, x_yes, x_noPart, x_part, x_slice, x_iter, it_t, it_l, it_n, it_s, it_r, x_rng1, x_enum, x_rev, x_m, x_m0, x_mX, x_zip, x_star_t, x_star_l, x_lenSet, x_forgo0, x_lcgo0, x_while, x_par, x_sortK,
  br_t, br_f, isB_bl, isI_int, isN_some, slo_some, atL_lst, ix_t, ix_l, ix_n,
  dAdd_ii, dAdd_ss, dAdd_tt, dAdd_ll, dMinus_ii, dMul_ii, dMod_ii, dFdiv_ii, dPow_ii, dShl_ii, dNeg_i, dIadd_ii, dLt_ii, dLe_ii, dGt_ii, dGe_ii, ltE_ii, ltE_ss, srcD, isi_i, isi_s, isi_b, isi_n, isi_t, isi_nt, isi_l, isi2_i, isi2_s, isi2_b, isi2_n, isi2_t, isi2_nt, isi2_l, inon_n, inon_i, inon_s, inon_b, inon_t, inon_l, inon_r, dEq_ii, dNe_ii, dEq_ss, dNe_ss, dEq_bb, dNe_bb, dIs_n, dIsNot_n, dMax2_ii, dMin2_ii, dTuple_t, dTuple_l, dList_t, dList_l, dSl_t, dSl_l, dSl_s, newL_f, newL_t, app_r, int_b, int_i, strI_i, strX_i, strX_s,
  startD, wipeD, setAll, permL, List.filterMap, List.map_cons, List.map_nil, List.length_cons, List.length_nil, List.replicate, List.cons_append, List.nil_append, List.append_nil, List.getElem?_cons_zero, List.getElem?_cons_succ, List.set_cons_zero, List.set_cons_succ, List.map, Nat.zero_add, Nat.reduceAdd, Nat.reduceSub, Nat.sub_self, Nat.succ_sub_succ_eq_sub])
local macro_rules | `(tactic| walk_at "v") => `(tactic| simp only [ofString_inj, String.reduceEq, at_0, at_1, at_2, at_3, at_4, at_5, isN_some, isBB_bl, isB_bl, br_t, br_f, br_not, br_and, br_or, br_dec, ix_r, len_tup, len_lst, len_nt, ltE_key, gup_gup, gup_same, starD_one, cut1, cut2, kt1, kt2, kt3, kt4, kt5, kt6, isTy, String.reduceBEq, Bool.or_false, Bool.false_or, Bool.true_or, Bool.or_true, Bool.and_false, Bool.false_and, Bool.true_and, Bool.and_true, Bool.not_true, Bool.not_false, decide_true, decide_false, eq_self_iff_true, Bool.false_eq_true, Int.reduceAdd, Int.add_zero, if_true, if_false, true_and, and_true])
local macro_rules | `(tactic| walk_at "side") => `(tactic| first | with_reducible assumption | omega | exact mty_up | exact True.intro | (simp only [List.mem_cons, ofString_inj, String.reduceEq, true_or, or_true, List.length_map]; done) | with_reducible exact (rfl : (_ : Nat) = _) | exact (rfl : (_ : Option String) = _) | (refine small_line ?_; omega) | (walk_at "ll"; first | omega | (refine small_line ?_; omega) | fail) | (exact log_small (by omega)) | fail)
local macro_rules | `(tactic| walk_at "x") => `(tactic| fail)
local macro_rules | `(tactic| walk_at "go") => `(tactic| repeat' (first | dsimp only [x_var, x_c, x_op, x_un, x_b, x_and, x_or, x_not, x_chain, x_andV, x_orV, x_notV, x_if, x_nil, x_cons, x_tup, x_lst0, x_lst1, x_callB, x_call, x_callK, x_next, x_seq, x_break, x_cont, x_drop, x_ret, x_ifS, x_asg, x_name, x_names, x_sub, x_aug, x_augS, x_for, x_lc0, x_lc1, x_yes, x_noPart, x_part, x_slice, x_iter, it_t, it_l, it_n, it_s, it_r, x_rng1, x_enum, x_rev, x_m, x_m0, x_mX, x_zip, x_star_t, x_star_l, x_lenSet, x_forgo0, x_lcgo0, x_while, x_par, x_sortK, br_t, br_f, isB_bl, isI_int, isN_some, slo_some, atL_lst, ix_t, ix_l, ix_n, dAdd_ii, dAdd_ss, dAdd_tt, dAdd_ll, dMinus_ii, dMul_ii, dMod_ii, dFdiv_ii, dPow_ii, dShl_ii, dNeg_i, dIadd_ii, dLt_ii, dLe_ii, dGt_ii, dGe_ii, ltE_ii, ltE_ss, srcD, isi_i, isi_s, isi_b, isi_n, isi_t, isi_nt, isi_l, isi2_i, isi2_s, isi2_b, isi2_n, isi2_t, isi2_nt, isi2_l, inon_n, inon_i, inon_s, inon_b, inon_t, inon_l, inon_r, dEq_ii, dNe_ii, dEq_ss, dNe_ss, dEq_bb, dNe_bb, dIs_n, dIsNot_n, dMax2_ii, dMin2_ii, dTuple_t, dTuple_l, dList_t, dList_l, dSl_t, dSl_l, dSl_s, newL_f, newL_t, app_r, int_b, int_i, strI_i, strX_i, strX_s, startD, wipeD, setAll, permL, List.filterMap, List.map_cons, List.map_nil, List.length_cons, List.length_nil, List.replicate, List.cons_append, List.nil_append, List.append_nil, List.getElem?_cons_zero, List.getElem?_cons_succ, List.set_cons_zero, List.set_cons_succ, List.map, Nat.zero_add, Nat.reduceAdd, Nat.reduceSub, Nat.sub_self, Nat.succ_sub_succ_eq_sub] | simp only [ofString_inj, String.reduceEq, at_0, at_1, at_2, at_3, at_4, at_5, isN_some, isBB_bl, isB_bl, br_t, br_f, br_not, br_and, br_or, br_dec, ix_r, len_tup, len_lst, len_nt, ltE_key, gup_gup, gup_same, starD_one, cut1, cut2, kt1, kt2, kt3, kt4, kt5, kt6, isTy, String.reduceBEq, Bool.or_false, Bool.false_or, Bool.true_or, Bool.or_true, Bool.and_false, Bool.false_and, Bool.true_and, Bool.and_true, Bool.not_true, Bool.not_false, decide_true, decide_false, eq_self_iff_true, Bool.false_eq_true, Int.reduceAdd, Int.add_zero, if_true, if_false, true_and, and_true] | walk_at "x" | with_reducible refine kont_go ?_ | with_reducible refine rt_sub (by assumption) ?_ | with_reducible refine rt_lst (by assumption) ?_ | with_reducible refine rt_drop (by assumption) ?_ | with_reducible refine rt_keep (by assumption) (by assumption) ?_ | with_reducible refine rt_same ?_ | (refine fun (p : Addr) (_ : _ = none) => ?_) | refine join_gor gup_same rfl (by walk_at "side") ?_ | with_reducible refine lc_cons ?_ | with_reducible refine for_cons ?_ | refine join_go rfl (by walk_at "side") ?_ | refine And.intro (by first | with_reducible assumption | omega | exact mty_up | exact True.intro | (simp only [List.mem_cons, ofString_inj, String.reduceEq, true_or, or_true, List.length_map]; done) | with_reducible exact (rfl : (_ : Nat) = _) | exact (rfl : (_ : Option String) = _) | (refine small_line ?_; omega) | (walk_at "ll"; first | omega | (refine small_line ?_; omega) | fail) | (exact log_small (by omega)) | fail) ?_ | fail))
local macro_rules | `(tactic| walk_at "ll") => `(tactic| simp only [List.length_map, List.length_append, List.length_cons, List.length_nil, List.map_cons, List.map_nil, List.sum_cons, List.sum_nil, len_app, rng_length, ll_0, ll_1, ll_2, ll_3, ll_4, ll_5, ll_6, ll_7, ll_8, ll_9, ll_10, ll_11, ll_12, ll_13, ll_14, ll_15, ll_16, ll_17, ll_18, ll_19, ll_20, ll_21, ll_22, ll_23, ll_24, ll_25, ll_26, ll_27, ll_28, ll_29, ll_30, ll_31, ll_32, ll_33, ll_34, ll_35, ll_36, ll_37, ll_38, ll_39, ll_40, ll_41, ll_42, ll_43, ll_44, ll_45, ll_46, ll_47, ll_48, ll_49, ll_50, ll_51, ll_52, ll_53, ll_54])
theorem tm_widT : ∀ x : Tm, wid x.d = true
  | .num w => by simp [Tm.d, wid, wids]
  | .reg x => by simp [Tm.d, wid, wids]
  | .load t => by simp [Tm.d, wid, wids, tm_widT t]
  | .op o t u => by simp [Tm.d, wid, wids, tm_widT t, tm_widT u]
theorem mn_widT {M : Mach} : ∀ {x : Mn}, x.ok M → wid x.d = true
  | .doo sets st, h => by
    have hl := h.1
    have e1 : wids (sets.map setD) = true := by
      clear h hl
      induction sets with
      | nil => rfl
      | cons p r ih => simp [wids, wid, setD, tm_widT, ih]
    have e2 : wids (st.toList.map stD) = true ∧ (st.toList.map stD).length ≤ 1 := by
      cases st with
      | none => exact ⟨rfl, by simp⟩
      | some p => exact ⟨by simp [wids, wid, stD, tm_widT], by simp⟩
    have e3 := e2.2
    simp only [Mn.d, wid, wids, e1, e2.1, List.length_map, List.length_cons, List.length_nil] at e3 ⊢
    simp
    omega
  | .ite t m n, h => by
    have i1 := mn_widT h.2.1
    have i2 := mn_widT h.2.2
    simp [Mn.d, wid, wids, i1, i2, tm_widT]
theorem mn_pyD {M : Mach} (hM : M.ok) : ∀ {x : Mn}, x.ok M → pyD x.d = true ∧ depD x.d ≤ x.lvl + 2
  | .doo sets st, h => by
    obtain ⟨h1, h2, h3, h4, h5⟩ := h
    have hd : pyD (.str "do") = true := by decide +kernel
    have e1 : pyDs (sets.map setD) = true ∧ depDs (sets.map setD) ≤ setsL sets + 1 := by
      clear h1 h5
      induction sets with
      | nil => exact ⟨rfl, by simp [depDs]⟩
      | cons p r ih =>
        obtain ⟨i1, i2⟩ := ih (fun q hq => h2 q (List.mem_cons_of_mem _ hq)) (fun q hq => h4 q (List.mem_cons_of_mem _ hq))
        obtain ⟨t1, t2⟩ := Tm.py hM (h2 p List.mem_cons_self).1
        have t3 := wd_py (nameW hM (h4 p List.mem_cons_self))
        simp only [setsL, List.foldr_cons] at i2 ⊢
        simp only [List.map_cons, pyDs, depDs, setD, pyD, depD] at i1 i2 t1 t2 t3 ⊢
        refine ⟨by simp [t1, t3, i1], by omega⟩
    have e2 : pyDs (st.toList.map stD) = true ∧ depDs (st.toList.map stD) ≤ stL st + 1 := by
      cases st with
      | none => exact ⟨rfl, by simp [depDs]⟩
      | some p =>
        have hq := h3 p rfl
        obtain ⟨t1, t2⟩ := Tm.py hM hq.1.1
        obtain ⟨u1, u2⟩ := Tm.py hM hq.2.1
        simp only [Option.toList_some, List.map_cons, List.map_nil, pyDs, depDs, stD, pyD, depD, stL] at t1 t2 u1 u2 ⊢
        refine ⟨by simp [t1, u1], by omega⟩
    simp only [Mn.d, Mn.lvl, pyD, pyDs, depD, depDs] at hd e1 e2 ⊢
    refine ⟨by simp [hd, e1.1, e2.1], by omega⟩
  | .ite t m n, h => by
    have hd : pyD (.str "if") = true := by decide +kernel
    obtain ⟨t1, t2⟩ := Tm.py hM h.1.1
    obtain ⟨i1, i2⟩ := mn_pyD hM h.2.1
    obtain ⟨j1, j2⟩ := mn_pyD hM h.2.2
    simp only [Mn.d, Mn.lvl, pyD, pyDs, depD, depDs] at hd t1 t2 i1 i2 j1 j2 ⊢
    refine ⟨by simp [hd, t1, i1, j1], by omega⟩
theorem go_same12 {x : D} {G : Gp} {R : DK} (hp : pyD x = true) (hw : wid x = true) (hd : depD x ≤ 12) (k : R (.bl true) G) : sp__law_same 12 [x, x] G R := ⟨x, rfl, hp, hw, hd, k⟩
/-! ### the law -/
def sp__law_right (a : Ad) : DSp := fun ds G R => ∃ s o, ds = [.ref s] ∧ G s = some o ∧ SackO 0 o ∧ ∀ o', R (.bl true) (gup G s o')
local macro_rules | `(tactic| walk_at "x") => `(tactic| first
  | refine go_pull (by first | exact gup_same | assumption | fail) (by assumption) (by omega) (by walk_at "side") (by walk_at "side") fun _ _ _ _ => ?_
  | fail)
theorem ok__law_right {P : Program} {w : World} {K : PySem.W.Frag} {mg : Str → Option Value} {base : Heap} {a : Ad} (T : Tx w K mg a) : FnD P w K mg base 28 a.f__law_right a.fd__law_right ["sack"] (sp__law_right a) := by
  refine fun_okD T.F__law_right sc__law_right (fun ds G R h => ?_) (fun cdv A outer s H hr => ⟨_, (qss_cons (qs_set (i := 1) sc__law_right.nd rfl (.inl rfl) (qe_call (ok__law_own T) (hr.mono (by omega)) rfl T.g__law_own T.F__law_own.kp T.b__law_own (qa_cons (qv 0) qa_nil)))
      (qss_cons (qs_for PassesOwn.never rfl (qi_range1 rfl T.n_range (qa_cons qe_int qa_nil)) (qg_of (pg_name (i := 2) sc__law_right.nd rfl (.inl rfl)) (tg_name (i := 2) (ws := [2]) (by decide)))
      (qss_cons (qs_set (i := 3) sc__law_right.nd rfl (.inl rfl) (qe_call (ok__law_any_plan T) (hr.mono (by omega)) rfl T.g__law_any_plan T.F__law_any_plan.kp T.b__law_any_plan (qa_cons (qv 0) (qa_cons (qv 1) qa_nil))))
      (qss_cons (qs_set (i := 4) sc__law_right.nd rfl (.inl rfl) (qe_call (ok__law_line T) (hr.mono (by omega)) rfl T.g__law_line T.F__law_line.kp T.b__law_line (qa_cons (qv 3) qa_nil)))
      (qss_cons (qs_if (qt_not (qt_val (qe_call (ok__law_same_n T 12) (hr.mono (by omega)) rfl T.g__law_same T.F__law_same.kp T.b__law_same (qa_cons (qe_lst false (qa_cons (qe_call (ok_show_meaning T) (hr.mono (by omega)) rfl T.g_show_meaning T.F_show_meaning.kp T.b_show_meaning (qa_cons (qv 3) qa_nil)) (qa_cons (qe_callK (ks := ["meaning"]) (g := permL [0]) (gu := permL [0]) (gv := permL [0]) (ok_show_meaning T) (hr.mono (by omega)) rfl T.g_show_meaning T.F_show_meaning.kp (T.kb0_show_meaning) (fun h => vals_perm h [0]) (fun h => rds_perm h [0]) (qk_cons (qv 3) (qk_nil))) qa_nil))) (qa_cons (qe_lst false (qa_cons (qv 4) (qa_cons (qv 4) qa_nil))) qa_nil)))))
      (qss_one (qs_ret qe_bl))
      qss_nil)
      (qss_one (qs_if (qt_not (qt_val (qe_call (ok__law_same_n T 12) (hr.mono (by omega)) rfl T.g__law_same T.F__law_same.kp T.b__law_same (qa_cons (qe_lst false (qa_cons (qe_call (ok_read_meaning T) (hr.mono (by omega)) rfl T.g_read_meaning T.F_read_meaning.kp T.b_read_meaning (qa_cons (qv 1) (qa_cons (qv 4) qa_nil))) (qa_cons (qe_callK (ks := ["text", "machine"]) (g := permL [1, 0]) (gu := permL [1, 0]) (gv := permL [1, 0]) (ok_read_meaning T) (hr.mono (by omega)) rfl T.g_read_meaning T.F_read_meaning.kp (T.kb0_read_meaning) (fun h => vals_perm h [1, 0]) (fun h => rds_perm h [1, 0]) (qk_cons (qv 4) (qk_cons (qv 1) (qk_nil)))) qa_nil))) (qa_cons (qe_lst false (qa_cons (qv 3) (qa_cons (qv 3) qa_nil))) qa_nil)))))
      (qss_one (qs_ret qe_bl))
      qss_nil))))))
      (qss_one (qs_ret qe_bl)))), fun ds G R h => ?_⟩)
  · obtain ⟨s, o, rfl, _⟩ := h; rfl
  · obtain ⟨s, o, rfl, e, ho, h⟩ := h
    refine seq_cut (fun σ' G' => ∃ (M : Mach) (o1 : GO), σ' = [some (.ref s), some M.d, none, none, none] ∧ M.ok ∧ SackO 120 o1 ∧ G' = gup G s o1) ?_ (fun N1 hN1 => ?_)
    rotate_left
    · walk_at "go"
      refine go_own e ho (by omega) fun M o1 hM ho1 => ?_
      walk_at "go"
      exact hN1 _ _ ⟨M, o1, rfl, hM, ho1.mono (by omega), rfl⟩
    rintro σ G1 ⟨M, o1, rfl, hM, ho1, rfl⟩
    refine seq_cut (fun σ' G' => ∃ (o3 : GO) (x2 x3 x4 : Option D), σ' = [some (.ref s), some M.d, x2, x3, x4] ∧ G' = gup G s o3) ?_ (fun N1 hN1 => ?_)
    rotate_left
    · rw [x_for, x_rng1]
      dsimp only [x_cons, x_nil, x_c]
      refine ⟨by omega, by omega, ?_⟩
      refine for_rng 3 (fun j σ' G' => ∃ (o3 : GO) (x2 x3 x4 : Option D), σ' = [some (.ref s), some M.d, x2, x3, x4] ∧ SackO (120 + 153000 * j) o3 ∧ G' = gup G s o3) ?turn ?fin _ _ ⟨o1, none, none, none, rfl, ho1, rfl⟩
      case fin =>
        rintro σ' G' ⟨o3, x2, x3, x4, rfl, ho3, rfl⟩
        exact hN1 _ _ ⟨o3, _, _, _, rfl, rfl⟩
      case turn =>
        rintro j σ' G' hj ⟨o3, x2, x3, x4, rfl, ho3, rfl⟩ N hN
        refine seq_cut (fun σ' G' => ∃ (x : Mn) (o4 : GO), σ' = [some (.ref s), some M.d, some (.int (j : Nat)), some x.d, x4] ∧ x.ok M ∧ x.lvl ≤ 6 ∧ SackO (120 + 153000 * (j + 1)) o4 ∧ G' = gup G s o4) ?_ (fun N2 hN2 => ?_)
        rotate_left
        · walk_at "go"
          refine go_anyplan hM gup_same ho3 (by omega) fun x o4 hx hl ho4 => ?_
          walk_at "go"
          exact hN2 _ _ ⟨x, o4, rfl, hx, hl, ho4.mono (by omega), rfl⟩
        rintro σ G1 ⟨x, o4, rfl, hx, hl, ho4, rfl⟩
        have hlv : x.lv ≤ 7 := by have := x.lv_lvl; omega
        have pyx := mn_pyD hM hx
        have pyt := mn_pyT hM hx
        have wx := mn_widT hx
        walk_at "go"
        refine go_lline hM hx hlv ?_
        walk_at "go"
        refine go_show_meaning hM hx hlv ?_
        walk_at "go"
        refine go_show_meaning hM hx hlv ?_
        walk_at "go"
        refine go_same12 (by simp only [pyD, pyDs] at pyt ⊢; simp [pyt]) (by simp [wid, wids]) (by simp [depD, depDs]) ?_
        walk_at "go"
        refine go_read_meaning hM hx hl ?_
        walk_at "go"
        refine go_read_meaning hM hx hl ?_
        walk_at "go"
        refine go_same12 (by simp only [pyD, pyDs, pyx.1]; rfl) (by simp only [wid, wids, wx]; simp) (by simp only [depD, depDs]; omega) ?_
        walk_at "go"
        exact hN _ _ ⟨o4, _, _, _, rfl, ho4, rfl⟩
    rintro σ G1 ⟨o3, x2, x3, x4, rfl, rfl⟩
    walk_at "go"
    exact h o3
end K19


set_option Elab.async false
set_option linter.all false
set_option maxRecDepth 100000
set_option maxHeartbeats 4000000
set_option autoImplicit false
namespace K19
open PySem PySem.Spec PyProof.Rows L2 DL
local macro_rules | `(tactic| walk_at "d") => `(tactic| dsimp only [dSeq, dNext, dIfS, dRet, dRetN, dAsg, dName, dVar, dC, dOp, dUn, dChain, dB, dAnd, dOr, dNot, dAndV, dOrV, dNotV, dIf, dNil, dCons, dTup, dLst, newL, dCallB, dCall, dCallK, dDrop, dAug, dAugS, dSub, dM, dM0, dSlice, dNoPart, dPart, dLc, dYes, dFor, dIter, dRng1, dEnum, dZipM, srcD, dStar, dInK, dIxK, dLenSet, dRev,
  startD, wipeD, setAll, dNames, List.map_cons, List.map_nil, List.length_cons, List.length_nil, List.replicate, List.cons_append, List.nil_append, List.append_nil, List.getElem?_cons_zero, List.getElem?_cons_succ, List.set_cons_zero, List.set_cons_succ, List.map, Nat.zero_add, Nat.reduceAdd, Nat.reduceSub, Nat.sub_self, Nat.succ_sub_succ_eq_sub])
local macro_rules | `(tactic| walk_at "o") => `(tactic| simp only [dAdd_ii, dAdd_ss, dAdd_tt, dAdd_ll, dMinus_ii, dMul_ii, dMod_ii, dFdiv_ii, dPow_ii, dShl_ii, dNeg_i, dIadd_ii, dLt_ii, dLe_ii, dGt_ii, dGe_ii, dEq_ii, dNe_ii, dEq_ss, dNe_ss, dEq_bb, dNe_bb, dIs_n, dIsNot_n, dMax2_ii, dMin2_ii, dTuple_t, dTuple_l, dList_t, dList_l, dIx_t, dIx_l, dIx_s, dSl_t, dSl_l, dSl_s, newL_f, len_tup, len_lst])
local macro_rules | `(tactic| walk_at "w") => `(tactic| dsimp only [x_var, x_c, x_op, x_un, x_b, x_and, x_or, x_not, x_chain, x_andV, x_orV, x_notV, x_if, x_nil, x_cons, x_tup, x_lst0, x_lst1, x_callB, x_call, x_callK, x_next, x_seq, x_break, x_cont, x_drop, x_ret, x_ifS, x_asg, x_name, x_names, x_sub, x_aug, x_augS, x_for, x_lc0, x_lc1, x_yes, x_noPart, x_part, x_slice, x_iter, it_t, it_l, it_n, it_s, it_r, x_rng1, x_enum, x_rev, x_m, x_m0, x_mX, x_zip, x_star_t, x_star_l, x_lenSet, x_forgo0, x_lcgo0, x_while, x_par, x_sortK,
  br_t, br_f, isB_bl, isI_int, isN_some, slo_some, atL_lst, ix_t, ix_l, ix_n,
  dAdd_ii, dAdd_ss, dAdd_tt, dAdd_ll, dMinus_ii, dMul_ii, dMod_ii, dFdiv_ii, dPow_ii, dShl_ii, dNeg_i, dIadd_ii, dLt_ii, dLe_ii, dGt_ii, dGe_ii, ltE_ii, ltE_ss, srcD, isi_i, isi_s, isi_b, isi_n, isi_t, isi_nt, isi_l, isi2_i, isi2_s, isi2_b, isi2_n, isi2_t, isi2_nt, isi2_l, inon_n, inon_i, inon_s, inon_b, inon_t, inon_l, inon_r, dEq_ii, dNe_ii, dEq_ss, dNe_ss, dEq_bb, dNe_bb, dIs_n, dIsNot_n, dMax2_ii, dMin2_ii, dTuple_t, dTuple_l, dList_t, dList_l, dSl_t, dSl_l, dSl_s, newL_f, newL_t, app_r, int_b, int_i, strI_i, strX_i, strX_s,
  startD, wipeD, setAll, permL, List.filterMap, List.map_cons, List.map_nil, List.length_cons, List.length_nil, List.replicate, List.cons_append, List.nil_append, List.append_nil, List.getElem?_cons_zero, List.getElem?_cons_succ, List.set_cons_zero, List.set_cons_succ, List.map, Nat.zero_add, Nat.reduceAdd, Nat.reduceSub, Nat.sub_self, Nat.succ_sub_succ_eq_sub])
local macro_rules | `(tactic| walk_at "v") => `(tactic| simp only [ofString_inj, String.reduceEq, at_0, at_1, at_2, at_3, at_4, at_5, isN_some, isBB_bl, isB_bl, br_t, br_f, br_not, br_and, br_or, br_dec, ix_r, len_tup, len_lst, len_nt, ltE_key, gup_gup, gup_same, starD_one, cut1, cut2, kt1, kt2, kt3, kt4, kt5, kt6, isTy, String.reduceBEq, Bool.or_false, Bool.false_or, Bool.true_or, Bool.or_true, Bool.and_false, Bool.false_and, Bool.true_and, Bool.and_true, Bool.not_true, Bool.not_false, decide_true, decide_false, eq_self_iff_true, Bool.false_eq_true, Int.reduceAdd, Int.add_zero, if_true, if_false, true_and, and_true])
local macro_rules | `(tactic| walk_at "side") => `(tactic| first | with_reducible assumption | omega | exact mty_up | exact True.intro | (simp only [List.mem_cons, ofString_inj, String.reduceEq, true_or, or_true, List.length_map]; done) | with_reducible exact (rfl : (_ : Nat) = _) | exact (rfl : (_ : Option String) = _) | (refine small_line ?_; omega) | (walk_at "ll"; first | omega | (refine small_line ?_; omega) | fail) | (exact log_small (by omega)) | fail)
local macro_rules | `(tactic| walk_at "x") => `(tactic| fail)
local macro_rules | `(tactic| walk_at "go") => `(tactic| repeat' (first | dsimp only [x_var, x_c, x_op, x_un, x_b, x_and, x_or, x_not, x_chain, x_andV, x_orV, x_notV, x_if, x_nil, x_cons, x_tup, x_lst0, x_lst1, x_callB, x_call, x_callK, x_next, x_seq, x_break, x_cont, x_drop, x_ret, x_ifS, x_asg, x_name, x_names, x_sub, x_aug, x_augS, x_for, x_lc0, x_lc1, x_yes, x_noPart, x_part, x_slice, x_iter, it_t, it_l, it_n, it_s, it_r, x_rng1, x_enum, x_rev, x_m, x_m0, x_mX, x_zip, x_star_t, x_star_l, x_lenSet, x_forgo0, x_lcgo0, x_while, x_par, x_sortK, br_t, br_f, isB_bl, isI_int, isN_some, slo_some, atL_lst, ix_t, ix_l, ix_n, dAdd_ii, dAdd_ss, dAdd_tt, dAdd_ll, dMinus_ii, dMul_ii, dMod_ii, dFdiv_ii, dPow_ii, dShl_ii, dNeg_i, dIadd_ii, dLt_ii, dLe_ii, dGt_ii, dGe_ii, ltE_ii, ltE_ss, srcD, isi_i, isi_s, isi_b, isi_n, isi_t, isi_nt, isi_l, isi2_i, isi2_s, isi2_b, isi2_n, isi2_t, isi2_nt, isi2_l, inon_n, inon_i, inon_s, inon_b, inon_t, inon_l, inon_r, dEq_ii, dNe_ii, dEq_ss, dNe_ss, dEq_bb, dNe_bb, dIs_n, dIsNot_n, dMax2_ii, dMin2_ii, dTuple_t, dTuple_l, dList_t, dList_l, dSl_t, dSl_l, dSl_s, newL_f, newL_t, app_r, int_b, int_i, strI_i, strX_i, strX_s, startD, wipeD, setAll, permL, List.filterMap, List.map_cons, List.map_nil, List.length_cons, List.length_nil, List.replicate, List.cons_append, List.nil_append, List.append_nil, List.getElem?_cons_zero, List.getElem?_cons_succ, List.set_cons_zero, List.set_cons_succ, List.map, Nat.zero_add, Nat.reduceAdd, Nat.reduceSub, Nat.sub_self, Nat.succ_sub_succ_eq_sub] | simp only [ofString_inj, String.reduceEq, at_0, at_1, at_2, at_3, at_4, at_5, isN_some, isBB_bl, isB_bl, br_t, br_f, br_not, br_and, br_or, br_dec, ix_r, len_tup, len_lst, len_nt, ltE_key, gup_gup, gup_same, starD_one, cut1, cut2, kt1, kt2, kt3, kt4, kt5, kt6, isTy, String.reduceBEq, Bool.or_false, Bool.false_or, Bool.true_or, Bool.or_true, Bool.and_false, Bool.false_and, Bool.true_and, Bool.and_true, Bool.not_true, Bool.not_false, decide_true, decide_false, eq_self_iff_true, Bool.false_eq_true, Int.reduceAdd, Int.add_zero, if_true, if_false, true_and, and_true] | walk_at "x" | with_reducible refine kont_go ?_ | with_reducible refine rt_sub (by assumption) ?_ | with_reducible refine rt_lst (by assumption) ?_ | with_reducible refine rt_drop (by assumption) ?_ | with_reducible refine rt_keep (by assumption) (by assumption) ?_ | with_reducible refine rt_same ?_ | (refine fun (p : Addr) (_ : _ = none) => ?_) | refine join_gor gup_same rfl (by walk_at "side") ?_ | with_reducible refine lc_cons ?_ | with_reducible refine for_cons ?_ | refine join_go rfl (by walk_at "side") ?_ | refine And.intro (by first | with_reducible assumption | omega | exact mty_up | exact True.intro | (simp only [List.mem_cons, ofString_inj, String.reduceEq, true_or, or_true, List.length_map]; done) | with_reducible exact (rfl : (_ : Nat) = _) | exact (rfl : (_ : Option String) = _) | (refine small_line ?_; omega) | (walk_at "ll"; first | omega | (refine small_line ?_; omega) | fail) | (exact log_small (by omega)) | fail) ?_ | fail))
local macro_rules | `(tactic| walk_at "ll") => `(tactic| simp only [List.length_map, List.length_append, List.length_cons, List.length_nil, List.map_cons, List.map_nil, List.sum_cons, List.sum_nil, len_app, rng_length, ll_0, ll_1, ll_2, ll_3, ll_4, ll_5, ll_6, ll_7, ll_8, ll_9, ll_10, ll_11, ll_12, ll_13, ll_14, ll_15, ll_16, ll_17, ll_18, ll_19, ll_20, ll_21, ll_22, ll_23, ll_24, ll_25, ll_26, ll_27, ll_28, ll_29, ll_30, ll_31, ll_32, ll_33, ll_34, ll_35, ll_36, ll_37, ll_38, ll_39, ll_40, ll_41, ll_42, ll_43, ll_44, ll_45, ll_46, ll_47, ll_48, ll_49, ll_50, ll_51, ll_52, ll_53, ll_54])
theorem all_mk {w : World} {K : PySem.W.Frag} {h : Heap} {mg : Str → Option Value} (X : K.In h) (G : h.Ns mainGlobals mg)
    {cC_Reader : Addr} (aC_Reader : PySem.W.nsIn K mainGlobals "Reader" = some (some (.ref cC_Reader)))
    (pg_Reader : PySem.W.plainGet K cC_Reader Str.empty = true) (hd_Reader : PySem.W.hasDictIn K cC_Reader = true) (po_Reader : PySem.W.plainOver K cC_Reader = true) (sa_Reader : PySem.W.findIn K (.ref cC_Reader) "__setattr__" = some (some (.builtin "object.__setattr__"))) (mk_Reader : PySem.W.makesIn K cC_Reader = true) (kc_Reader : PySem.W.keepIn K (.ref cC_Reader) = true)
    (na_Reader_words : PySem.W.findIn K (.ref cC_Reader) "words" = some none)
    (na_Reader_at : PySem.W.findIn K (.ref cC_Reader) "at" = some none)
    {f0 : Addr} {od0 an0 : Option Addr} {sl0 : Array (Option Value)} {oc0 kV0 dc0 pm0 cd0 ct0 : Value}
    (a0 : PySem.W.nsIn K mainGlobals "is_whole" = some (some (.ref f0)))
    (l0 : K.lookup f0 = some ⟨oc0, od0, .func (PySem.W.fnOf "is_whole" "is_whole" (defArgs s_is_whole) (defBody s_is_whole) (defScope s_is_whole) .none kV0 dc0 pm0 an0 cd0 ct0), sl0⟩) (c0 : PySem.W.codeIn K cd0 "is_whole" = true) (k0 : PySem.W.keepIn K (.ref f0) = true)
    {f1 : Addr} {od1 an1 : Option Addr} {sl1 : Array (Option Value)} {oc1 kV1 dc1 pm1 cd1 ct1 : Value}
    (a1 : PySem.W.nsIn K mainGlobals "is_within" = some (some (.ref f1)))
    (l1 : K.lookup f1 = some ⟨oc1, od1, .func (PySem.W.fnOf "is_within" "is_within" (defArgs s_is_within) (defBody s_is_within) (defScope s_is_within) .none kV1 dc1 pm1 an1 cd1 ct1), sl1⟩) (c1 : PySem.W.codeIn K cd1 "is_within" = true) (k1 : PySem.W.keepIn K (.ref f1) = true)
    {f2 : Addr} {od2 an2 : Option Addr} {sl2 : Array (Option Value)} {oc2 kV2 dc2 pm2 cd2 ct2 : Value}
    (a2 : PySem.W.nsIn K mainGlobals "is_name" = some (some (.ref f2)))
    (l2 : K.lookup f2 = some ⟨oc2, od2, .func (PySem.W.fnOf "is_name" "is_name" (defArgs s_is_name) (defBody s_is_name) (defScope s_is_name) .none kV2 dc2 pm2 an2 cd2 ct2), sl2⟩) (c2 : PySem.W.codeIn K cd2 "is_name" = true) (k2 : PySem.W.keepIn K (.ref f2) = true)
    {f3 : Addr} {od3 an3 : Option Addr} {sl3 : Array (Option Value)} {oc3 kV3 dc3 pm3 cd3 ct3 : Value}
    (a3 : PySem.W.nsIn K mainGlobals "is_word" = some (some (.ref f3)))
    (l3 : K.lookup f3 = some ⟨oc3, od3, .func (PySem.W.fnOf "is_word" "is_word" (defArgs s_is_word) (defBody s_is_word) (defScope s_is_word) .none kV3 dc3 pm3 an3 cd3 ct3), sl3⟩) (c3 : PySem.W.codeIn K cd3 "is_word" = true) (k3 : PySem.W.keepIn K (.ref f3) = true)
    {f4 : Addr} {od4 an4 : Option Addr} {sl4 : Array (Option Value)} {oc4 kV4 dc4 pm4 cd4 ct4 : Value}
    (a4 : PySem.W.nsIn K mainGlobals "both_added" = some (some (.ref f4)))
    (l4 : K.lookup f4 = some ⟨oc4, od4, .func (PySem.W.fnOf "both_added" "both_added" (defArgs s_both_added) (defBody s_both_added) (defScope s_both_added) .none kV4 dc4 pm4 an4 cd4 ct4), sl4⟩) (c4 : PySem.W.codeIn K cd4 "both_added" = true) (k4 : PySem.W.keepIn K (.ref f4) = true)
    {f5 : Addr} {od5 an5 : Option Addr} {sl5 : Array (Option Value)} {oc5 kV5 dc5 pm5 cd5 ct5 : Value}
    (a5 : PySem.W.nsIn K mainGlobals "taken_off" = some (some (.ref f5)))
    (l5 : K.lookup f5 = some ⟨oc5, od5, .func (PySem.W.fnOf "taken_off" "taken_off" (defArgs s_taken_off) (defBody s_taken_off) (defScope s_taken_off) .none kV5 dc5 pm5 an5 cd5 ct5), sl5⟩) (c5 : PySem.W.codeIn K cd5 "taken_off" = true) (k5 : PySem.W.keepIn K (.ref f5) = true)
    {f6 : Addr} {od6 an6 : Option Addr} {sl6 : Array (Option Value)} {oc6 kV6 dc6 pm6 cd6 ct6 : Value}
    (a6 : PySem.W.nsIn K mainGlobals "bits_of_both" = some (some (.ref f6)))
    (l6 : K.lookup f6 = some ⟨oc6, od6, .func (PySem.W.fnOf "bits_of_both" "bits_of_both" (defArgs s_bits_of_both) (defBody s_bits_of_both) (defScope s_bits_of_both) .none kV6 dc6 pm6 an6 cd6 ct6), sl6⟩) (c6 : PySem.W.codeIn K cd6 "bits_of_both" = true) (k6 : PySem.W.keepIn K (.ref f6) = true)
    {f7 : Addr} {od7 an7 : Option Addr} {sl7 : Array (Option Value)} {oc7 kV7 dc7 pm7 cd7 ct7 : Value}
    (a7 : PySem.W.nsIn K mainGlobals "bits_of_one" = some (some (.ref f7)))
    (l7 : K.lookup f7 = some ⟨oc7, od7, .func (PySem.W.fnOf "bits_of_one" "bits_of_one" (defArgs s_bits_of_one) (defBody s_bits_of_one) (defScope s_bits_of_one) .none kV7 dc7 pm7 an7 cd7 ct7), sl7⟩) (c7 : PySem.W.codeIn K cd7 "bits_of_one" = true) (k7 : PySem.W.keepIn K (.ref f7) = true)
    {f8 : Addr} {od8 an8 : Option Addr} {sl8 : Array (Option Value)} {oc8 kV8 dc8 pm8 cd8 ct8 : Value}
    (a8 : PySem.W.nsIn K mainGlobals "bits_unlike" = some (some (.ref f8)))
    (l8 : K.lookup f8 = some ⟨oc8, od8, .func (PySem.W.fnOf "bits_unlike" "bits_unlike" (defArgs s_bits_unlike) (defBody s_bits_unlike) (defScope s_bits_unlike) .none kV8 dc8 pm8 an8 cd8 ct8), sl8⟩) (c8 : PySem.W.codeIn K cd8 "bits_unlike" = true) (k8 : PySem.W.keepIn K (.ref f8) = true)
    {f9 : Addr} {od9 an9 : Option Addr} {sl9 : Array (Option Value)} {oc9 kV9 dc9 pm9 cd9 ct9 : Value}
    (a9 : PySem.W.nsIn K mainGlobals "is_less" = some (some (.ref f9)))
    (l9 : K.lookup f9 = some ⟨oc9, od9, .func (PySem.W.fnOf "is_less" "is_less" (defArgs s_is_less) (defBody s_is_less) (defScope s_is_less) .none kV9 dc9 pm9 an9 cd9 ct9), sl9⟩) (c9 : PySem.W.codeIn K cd9 "is_less" = true) (k9 : PySem.W.keepIn K (.ref f9) = true)
    {f10 : Addr} {od10 an10 : Option Addr} {sl10 : Array (Option Value)} {oc10 kV10 dc10 pm10 cd10 ct10 : Value}
    (a10 : PySem.W.nsIn K mainGlobals "is_same" = some (some (.ref f10)))
    (l10 : K.lookup f10 = some ⟨oc10, od10, .func (PySem.W.fnOf "is_same" "is_same" (defArgs s_is_same) (defBody s_is_same) (defScope s_is_same) .none kV10 dc10 pm10 an10 cd10 ct10), sl10⟩) (c10 : PySem.W.codeIn K cd10 "is_same" = true) (k10 : PySem.W.keepIn K (.ref f10) = true)
    {f11 : Addr} {od11 an11 : Option Addr} {sl11 : Array (Option Value)} {oc11 kV11 dc11 pm11 cd11 ct11 : Value}
    (a11 : PySem.W.nsIn K mainGlobals "number_in" = some (some (.ref f11)))
    (l11 : K.lookup f11 = some ⟨oc11, od11, .func (PySem.W.fnOf "number_in" "number_in" (defArgs s_number_in) (defBody s_number_in) (defScope s_number_in) .none kV11 dc11 pm11 an11 cd11 ct11), sl11⟩) (c11 : PySem.W.codeIn K cd11 "number_in" = true) (k11 : PySem.W.keepIn K (.ref f11) = true)
    {f12 : Addr} {od12 an12 : Option Addr} {sl12 : Array (Option Value)} {oc12 kV12 dc12 pm12 cd12 ct12 : Value}
    (a12 : PySem.W.nsIn K mainGlobals "is_term" = some (some (.ref f12)))
    (l12 : K.lookup f12 = some ⟨oc12, od12, .func (PySem.W.fnOf "is_term" "is_term" (defArgs s_is_term) (defBody s_is_term) (defScope s_is_term) .none kV12 dc12 pm12 an12 cd12 ct12), sl12⟩) (c12 : PySem.W.codeIn K cd12 "is_term" = true) (k12 : PySem.W.keepIn K (.ref f12) = true)
    {f13 : Addr} {od13 an13 : Option Addr} {sl13 : Array (Option Value)} {oc13 kV13 dc13 pm13 cd13 ct13 : Value}
    (a13 : PySem.W.nsIn K mainGlobals "are_sets" = some (some (.ref f13)))
    (l13 : K.lookup f13 = some ⟨oc13, od13, .func (PySem.W.fnOf "are_sets" "are_sets" (defArgs s_are_sets) (defBody s_are_sets) (defScope s_are_sets) .none kV13 dc13 pm13 an13 cd13 ct13), sl13⟩) (c13 : PySem.W.codeIn K cd13 "are_sets" = true) (k13 : PySem.W.keepIn K (.ref f13) = true)
    {f14 : Addr} {od14 an14 : Option Addr} {sl14 : Array (Option Value)} {oc14 kV14 dc14 pm14 cd14 ct14 : Value}
    (a14 : PySem.W.nsIn K mainGlobals "are_stores" = some (some (.ref f14)))
    (l14 : K.lookup f14 = some ⟨oc14, od14, .func (PySem.W.fnOf "are_stores" "are_stores" (defArgs s_are_stores) (defBody s_are_stores) (defScope s_are_stores) .none kV14 dc14 pm14 an14 cd14 ct14), sl14⟩) (c14 : PySem.W.codeIn K cd14 "are_stores" = true) (k14 : PySem.W.keepIn K (.ref f14) = true)
    {f15 : Addr} {od15 an15 : Option Addr} {sl15 : Array (Option Value)} {oc15 kV15 dc15 pm15 cd15 ct15 : Value}
    (a15 : PySem.W.nsIn K mainGlobals "is_done" = some (some (.ref f15)))
    (l15 : K.lookup f15 = some ⟨oc15, od15, .func (PySem.W.fnOf "is_done" "is_done" (defArgs s_is_done) (defBody s_is_done) (defScope s_is_done) .none kV15 dc15 pm15 an15 cd15 ct15), sl15⟩) (c15 : PySem.W.codeIn K cd15 "is_done" = true) (k15 : PySem.W.keepIn K (.ref f15) = true)
    {f16 : Addr} {od16 an16 : Option Addr} {sl16 : Array (Option Value)} {oc16 kV16 dc16 pm16 cd16 ct16 : Value}
    (a16 : PySem.W.nsIn K mainGlobals "is_meaning" = some (some (.ref f16)))
    (l16 : K.lookup f16 = some ⟨oc16, od16, .func (PySem.W.fnOf "is_meaning" "is_meaning" (defArgs s_is_meaning) (defBody s_is_meaning) (defScope s_is_meaning) .none kV16 dc16 pm16 an16 cd16 ct16), sl16⟩) (c16 : PySem.W.codeIn K cd16 "is_meaning" = true) (k16 : PySem.W.keepIn K (.ref f16) = true)
    {f17 : Addr} {od17 an17 : Option Addr} {sl17 : Array (Option Value)} {oc17 kV17 dc17 pm17 cd17 ct17 : Value}
    (a17 : PySem.W.nsIn K mainGlobals "show_term" = some (some (.ref f17)))
    (l17 : K.lookup f17 = some ⟨oc17, od17, .func (PySem.W.fnOf "show_term" "show_term" (defArgs s_show_term) (defBody s_show_term) (defScope s_show_term) .none kV17 dc17 pm17 an17 cd17 ct17), sl17⟩) (c17 : PySem.W.codeIn K cd17 "show_term" = true) (k17 : PySem.W.keepIn K (.ref f17) = true)
    {f18 : Addr} {od18 an18 : Option Addr} {sl18 : Array (Option Value)} {oc18 kV18 dc18 pm18 cd18 ct18 : Value}
    (a18 : PySem.W.nsIn K mainGlobals "show_meaning" = some (some (.ref f18)))
    (l18 : K.lookup f18 = some ⟨oc18, od18, .func (PySem.W.fnOf "show_meaning" "show_meaning" (defArgs s_show_meaning) (defBody s_show_meaning) (defScope s_show_meaning) .none kV18 dc18 pm18 an18 cd18 ct18), sl18⟩) (c18 : PySem.W.codeIn K cd18 "show_meaning" = true) (k18 : PySem.W.keepIn K (.ref f18) = true)
    {f19 : Addr} {od19 an19 : Option Addr} {sl19 : Array (Option Value)} {oc19 kV19 dc19 pm19 cd19 ct19 : Value}
    (a19 : PySem.W.nsIn K mainGlobals "words_in" = some (some (.ref f19)))
    (l19 : K.lookup f19 = some ⟨oc19, od19, .func (PySem.W.fnOf "words_in" "words_in" (defArgs s_words_in) (defBody s_words_in) (defScope s_words_in) .none kV19 dc19 pm19 an19 cd19 ct19), sl19⟩) (c19 : PySem.W.codeIn K cd19 "words_in" = true) (k19 : PySem.W.keepIn K (.ref f19) = true)
    {f20 : Addr} {od20 an20 : Option Addr} {sl20 : Array (Option Value)} {oc20 kV20 dc20 pm20 cd20 ct20 : Value}
    (a20 : PySem.W.findIn K (.ref cC_Reader) "__init__" = some (some (.ref f20))) (i20 : PySem.W.isFn K (.ref f20) = true)
    (l20 : K.lookup f20 = some ⟨oc20, od20, .func (PySem.W.fnOf "__init__" "Reader.__init__" (defArgs s_Reader___init__) (defBody s_Reader___init__) (defScope s_Reader___init__) .none kV20 dc20 pm20 an20 cd20 ct20), sl20⟩) (c20 : PySem.W.codeIn K cd20 "Reader.__init__" = true) (k20 : PySem.W.keepIn K (.ref f20) = true)
    {f21 : Addr} {od21 an21 : Option Addr} {sl21 : Array (Option Value)} {oc21 kV21 dc21 pm21 cd21 ct21 : Value}
    (a21 : PySem.W.findIn K (.ref cC_Reader) "ahead" = some (some (.ref f21))) (i21 : PySem.W.isFn K (.ref f21) = true)
    {pD21 : Addr} {oD21 : Option Addr} {nD21 : Nat} {sD21 : Array (Option Value)} {tD21_0 : Tok} (d21 : K.lookup pD21 = some ⟨.type "tuple", oD21, .seq #[.int 0 tD21_0] nD21, sD21⟩)
    (l21 : K.lookup f21 = some ⟨oc21, od21, .func (PySem.W.fnOf "ahead" "Reader.ahead" (defArgs s_Reader_ahead) (defBody s_Reader_ahead) (defScope s_Reader_ahead) (.ref pD21) kV21 dc21 pm21 an21 cd21 ct21), sl21⟩) (c21 : PySem.W.codeIn K cd21 "Reader.ahead" = true) (k21 : PySem.W.keepIn K (.ref f21) = true)
    {f22 : Addr} {od22 an22 : Option Addr} {sl22 : Array (Option Value)} {oc22 kV22 dc22 pm22 cd22 ct22 : Value}
    (a22 : PySem.W.findIn K (.ref cC_Reader) "take" = some (some (.ref f22))) (i22 : PySem.W.isFn K (.ref f22) = true)
    {pD22 : Addr} {oD22 : Option Addr} {nD22 : Nat} {sD22 : Array (Option Value)} {tD22_0 : Tok} (d22 : K.lookup pD22 = some ⟨.type "tuple", oD22, .seq #[.str "" tD22_0] nD22, sD22⟩)
    (l22 : K.lookup f22 = some ⟨oc22, od22, .func (PySem.W.fnOf "take" "Reader.take" (defArgs s_Reader_take) (defBody s_Reader_take) (defScope s_Reader_take) (.ref pD22) kV22 dc22 pm22 an22 cd22 ct22), sl22⟩) (c22 : PySem.W.codeIn K cd22 "Reader.take" = true) (k22 : PySem.W.keepIn K (.ref f22) = true)
    {f23 : Addr} {od23 an23 : Option Addr} {sl23 : Array (Option Value)} {oc23 kV23 dc23 pm23 cd23 ct23 : Value}
    (a23 : PySem.W.findIn K (.ref cC_Reader) "term" = some (some (.ref f23))) (i23 : PySem.W.isFn K (.ref f23) = true)
    (l23 : K.lookup f23 = some ⟨oc23, od23, .func (PySem.W.fnOf "term" "Reader.term" (defArgs s_Reader_term) (defBody s_Reader_term) (defScope s_Reader_term) .none kV23 dc23 pm23 an23 cd23 ct23), sl23⟩) (c23 : PySem.W.codeIn K cd23 "Reader.term" = true) (k23 : PySem.W.keepIn K (.ref f23) = true)
    {f24 : Addr} {od24 an24 : Option Addr} {sl24 : Array (Option Value)} {oc24 kV24 dc24 pm24 cd24 ct24 : Value}
    (a24 : PySem.W.findIn K (.ref cC_Reader) "way" = some (some (.ref f24))) (i24 : PySem.W.isFn K (.ref f24) = true)
    (l24 : K.lookup f24 = some ⟨oc24, od24, .func (PySem.W.fnOf "way" "Reader.way" (defArgs s_Reader_way) (defBody s_Reader_way) (defScope s_Reader_way) .none kV24 dc24 pm24 an24 cd24 ct24), sl24⟩) (c24 : PySem.W.codeIn K cd24 "Reader.way" = true) (k24 : PySem.W.keepIn K (.ref f24) = true)
    {f25 : Addr} {od25 an25 : Option Addr} {sl25 : Array (Option Value)} {oc25 kV25 dc25 pm25 cd25 ct25 : Value}
    (a25 : PySem.W.findIn K (.ref cC_Reader) "meaning" = some (some (.ref f25))) (i25 : PySem.W.isFn K (.ref f25) = true)
    (l25 : K.lookup f25 = some ⟨oc25, od25, .func (PySem.W.fnOf "meaning" "Reader.meaning" (defArgs s_Reader_meaning) (defBody s_Reader_meaning) (defScope s_Reader_meaning) .none kV25 dc25 pm25 an25 cd25 ct25), sl25⟩) (c25 : PySem.W.codeIn K cd25 "Reader.meaning" = true) (k25 : PySem.W.keepIn K (.ref f25) = true)
    {f26 : Addr} {od26 an26 : Option Addr} {sl26 : Array (Option Value)} {oc26 kV26 dc26 pm26 cd26 ct26 : Value}
    (a26 : PySem.W.findIn K (.ref cC_Reader) "done" = some (some (.ref f26))) (i26 : PySem.W.isFn K (.ref f26) = true)
    (l26 : K.lookup f26 = some ⟨oc26, od26, .func (PySem.W.fnOf "done" "Reader.done" (defArgs s_Reader_done) (defBody s_Reader_done) (defScope s_Reader_done) .none kV26 dc26 pm26 an26 cd26 ct26), sl26⟩) (c26 : PySem.W.codeIn K cd26 "Reader.done" = true) (k26 : PySem.W.keepIn K (.ref f26) = true)
    {f27 : Addr} {od27 an27 : Option Addr} {sl27 : Array (Option Value)} {oc27 kV27 dc27 pm27 cd27 ct27 : Value}
    (a27 : PySem.W.nsIn K mainGlobals "read_meaning" = some (some (.ref f27)))
    (l27 : K.lookup f27 = some ⟨oc27, od27, .func (PySem.W.fnOf "read_meaning" "read_meaning" (defArgs s_read_meaning) (defBody s_read_meaning) (defScope s_read_meaning) .none kV27 dc27 pm27 an27 cd27 ct27), sl27⟩) (c27 : PySem.W.codeIn K cd27 "read_meaning" = true) (k27 : PySem.W.keepIn K (.ref f27) = true)
    {f28 : Addr} {od28 an28 : Option Addr} {sl28 : Array (Option Value)} {oc28 kV28 dc28 pm28 cd28 ct28 : Value}
    (a28 : PySem.W.nsIn K mainGlobals "_law_sack" = some (some (.ref f28)))
    (l28 : K.lookup f28 = some ⟨oc28, od28, .func (PySem.W.fnOf "_law_sack" "_law_sack" (defArgs s__law_sack) (defBody s__law_sack) (defScope s__law_sack) .none kV28 dc28 pm28 an28 cd28 ct28), sl28⟩) (c28 : PySem.W.codeIn K cd28 "_law_sack" = true) (k28 : PySem.W.keepIn K (.ref f28) = true)
    {f29 : Addr} {od29 an29 : Option Addr} {sl29 : Array (Option Value)} {oc29 kV29 dc29 pm29 cd29 ct29 : Value}
    (a29 : PySem.W.nsIn K mainGlobals "_law_pull" = some (some (.ref f29)))
    (l29 : K.lookup f29 = some ⟨oc29, od29, .func (PySem.W.fnOf "_law_pull" "_law_pull" (defArgs s__law_pull) (defBody s__law_pull) (defScope s__law_pull) .none kV29 dc29 pm29 an29 cd29 ct29), sl29⟩) (c29 : PySem.W.codeIn K cd29 "_law_pull" = true) (k29 : PySem.W.keepIn K (.ref f29) = true)
    {f30 : Addr} {od30 an30 : Option Addr} {sl30 : Array (Option Value)} {oc30 kV30 dc30 pm30 cd30 ct30 : Value}
    (a30 : PySem.W.nsIn K mainGlobals "_law_names" = some (some (.ref f30)))
    (l30 : K.lookup f30 = some ⟨oc30, od30, .func (PySem.W.fnOf "_law_names" "_law_names" (defArgs s__law_names) (defBody s__law_names) (defScope s__law_names) .none kV30 dc30 pm30 an30 cd30 ct30), sl30⟩) (c30 : PySem.W.codeIn K cd30 "_law_names" = true) (k30 : PySem.W.keepIn K (.ref f30) = true)
    {f31 : Addr} {od31 an31 : Option Addr} {sl31 : Array (Option Value)} {oc31 kV31 dc31 pm31 cd31 ct31 : Value}
    (a31 : PySem.W.nsIn K mainGlobals "_law_own" = some (some (.ref f31)))
    (l31 : K.lookup f31 = some ⟨oc31, od31, .func (PySem.W.fnOf "_law_own" "_law_own" (defArgs s__law_own) (defBody s__law_own) (defScope s__law_own) .none kV31 dc31 pm31 an31 cd31 ct31), sl31⟩) (c31 : PySem.W.codeIn K cd31 "_law_own" = true) (k31 : PySem.W.keepIn K (.ref f31) = true)
    {f32 : Addr} {od32 an32 : Option Addr} {sl32 : Array (Option Value)} {oc32 kV32 dc32 pm32 cd32 ct32 : Value}
    (a32 : PySem.W.nsIn K mainGlobals "_law_word" = some (some (.ref f32)))
    (l32 : K.lookup f32 = some ⟨oc32, od32, .func (PySem.W.fnOf "_law_word" "_law_word" (defArgs s__law_word) (defBody s__law_word) (defScope s__law_word) .none kV32 dc32 pm32 an32 cd32 ct32), sl32⟩) (c32 : PySem.W.codeIn K cd32 "_law_word" = true) (k32 : PySem.W.keepIn K (.ref f32) = true)
    {f33 : Addr} {od33 an33 : Option Addr} {sl33 : Array (Option Value)} {oc33 kV33 dc33 pm33 cd33 ct33 : Value}
    (a33 : PySem.W.nsIn K mainGlobals "_law_term" = some (some (.ref f33)))
    (l33 : K.lookup f33 = some ⟨oc33, od33, .func (PySem.W.fnOf "_law_term" "_law_term" (defArgs s__law_term) (defBody s__law_term) (defScope s__law_term) .none kV33 dc33 pm33 an33 cd33 ct33), sl33⟩) (c33 : PySem.W.codeIn K cd33 "_law_term" = true) (k33 : PySem.W.keepIn K (.ref f33) = true)
    {f34 : Addr} {od34 an34 : Option Addr} {sl34 : Array (Option Value)} {oc34 kV34 dc34 pm34 cd34 ct34 : Value}
    (a34 : PySem.W.nsIn K mainGlobals "_law_plan" = some (some (.ref f34)))
    (l34 : K.lookup f34 = some ⟨oc34, od34, .func (PySem.W.fnOf "_law_plan" "_law_plan" (defArgs s__law_plan) (defBody s__law_plan) (defScope s__law_plan) .none kV34 dc34 pm34 an34 cd34 ct34), sl34⟩) (c34 : PySem.W.codeIn K cd34 "_law_plan" = true) (k34 : PySem.W.keepIn K (.ref f34) = true)
    {f35 : Addr} {od35 an35 : Option Addr} {sl35 : Array (Option Value)} {oc35 kV35 dc35 pm35 cd35 ct35 : Value}
    (a35 : PySem.W.nsIn K mainGlobals "_law_any_plan" = some (some (.ref f35)))
    (l35 : K.lookup f35 = some ⟨oc35, od35, .func (PySem.W.fnOf "_law_any_plan" "_law_any_plan" (defArgs s__law_any_plan) (defBody s__law_any_plan) (defScope s__law_any_plan) .none kV35 dc35 pm35 an35 cd35 ct35), sl35⟩) (c35 : PySem.W.codeIn K cd35 "_law_any_plan" = true) (k35 : PySem.W.keepIn K (.ref f35) = true)
    {f36 : Addr} {od36 an36 : Option Addr} {sl36 : Array (Option Value)} {oc36 kV36 dc36 pm36 cd36 ct36 : Value}
    (a36 : PySem.W.nsIn K mainGlobals "_law_shown" = some (some (.ref f36)))
    (l36 : K.lookup f36 = some ⟨oc36, od36, .func (PySem.W.fnOf "_law_shown" "_law_shown" (defArgs s__law_shown) (defBody s__law_shown) (defScope s__law_shown) .none kV36 dc36 pm36 an36 cd36 ct36), sl36⟩) (c36 : PySem.W.codeIn K cd36 "_law_shown" = true) (k36 : PySem.W.keepIn K (.ref f36) = true)
    {f37 : Addr} {od37 an37 : Option Addr} {sl37 : Array (Option Value)} {oc37 kV37 dc37 pm37 cd37 ct37 : Value}
    (a37 : PySem.W.nsIn K mainGlobals "_law_line" = some (some (.ref f37)))
    (l37 : K.lookup f37 = some ⟨oc37, od37, .func (PySem.W.fnOf "_law_line" "_law_line" (defArgs s__law_line) (defBody s__law_line) (defScope s__law_line) .none kV37 dc37 pm37 an37 cd37 ct37), sl37⟩) (c37 : PySem.W.codeIn K cd37 "_law_line" = true) (k37 : PySem.W.keepIn K (.ref f37) = true)
    {f38 : Addr} {od38 an38 : Option Addr} {sl38 : Array (Option Value)} {oc38 kV38 dc38 pm38 cd38 ct38 : Value}
    (a38 : PySem.W.nsIn K mainGlobals "_law_same" = some (some (.ref f38)))
    (l38 : K.lookup f38 = some ⟨oc38, od38, .func (PySem.W.fnOf "_law_same" "_law_same" (defArgs s__law_same) (defBody s__law_same) (defScope s__law_same) .none kV38 dc38 pm38 an38 cd38 ct38), sl38⟩) (c38 : PySem.W.codeIn K cd38 "_law_same" = true) (k38 : PySem.W.keepIn K (.ref f38) = true)
    {f39 : Addr} {od39 an39 : Option Addr} {sl39 : Array (Option Value)} {oc39 kV39 dc39 pm39 cd39 ct39 : Value}
    (a39 : PySem.W.nsIn K mainGlobals "_law_right" = some (some (.ref f39)))
    (l39 : K.lookup f39 = some ⟨oc39, od39, .func (PySem.W.fnOf "_law_right" "_law_right" (defArgs s__law_right) (defBody s__law_right) (defScope s__law_right) .none kV39 dc39 pm39 an39 cd39 ct39), sl39⟩) (c39 : PySem.W.codeIn K cd39 "_law_right" = true) (k39 : PySem.W.keepIn K (.ref f39) = true)
    {f40 : Addr} {od40 an40 : Option Addr} {sl40 : Array (Option Value)} {oc40 kV40 dc40 pm40 cd40 ct40 : Value}
    (a40 : PySem.W.nsIn K mainGlobals "law" = some (some (.ref f40)))
    (l40 : K.lookup f40 = some ⟨oc40, od40, .func (PySem.W.fnOf "law" "law" (defArgs s_law) (defBody s_law) (defScope s_law) .none kV40 dc40 pm40 an40 cd40 ct40), sl40⟩) (c40 : PySem.W.codeIn K cd40 "law" = true) (k40 : PySem.W.keepIn K (.ref f40) = true)
    (z_all : PySem.W.nsIn K mainGlobals "all" = some none)
    (z_bool : PySem.W.nsIn K mainGlobals "bool" = some none)
    (z_enumerate : PySem.W.nsIn K mainGlobals "enumerate" = some none)
    (z_int : PySem.W.nsIn K mainGlobals "int" = some none)
    (z_isinstance : PySem.W.nsIn K mainGlobals "isinstance" = some none)
    (z_len : PySem.W.nsIn K mainGlobals "len" = some none)
    (z_list : PySem.W.nsIn K mainGlobals "list" = some none)
    (z_max : PySem.W.nsIn K mainGlobals "max" = some none)
    (z_min : PySem.W.nsIn K mainGlobals "min" = some none)
    (z_range : PySem.W.nsIn K mainGlobals "range" = some none)
    (z_set : PySem.W.nsIn K mainGlobals "set" = some none)
    (z_str : PySem.W.nsIn K mainGlobals "str" = some none)
    (z_tuple : PySem.W.nsIn K mainGlobals "tuple" = some none)
    (z_zip : PySem.W.nsIn K mainGlobals "zip" = some none)
    {t_MOST_SIGNS : Tok} (y_MOST_SIGNS : PySem.W.nsIn K mainGlobals "MOST_SIGNS" = some (some (.int 8 t_MOST_SIGNS)))
    {t_LETTERS : Tok} (y_LETTERS : PySem.W.nsIn K mainGlobals "LETTERS" = some (some (.str "abcdefghijklmnopqrstuvwxyz" t_LETTERS)))
    {d_OPS : Addr} {n_OPS : Nat} {t_OPS_0 t_OPS_1 t_OPS_2 t_OPS_3 t_OPS_4 t_OPS_5 t_OPS_6 : Tok} (y_OPS : PySem.W.nsIn K mainGlobals "OPS" = some (some (.ref d_OPS)))
    (l_OPS : K.lookup d_OPS = some ⟨.type "dict", none, .dict #[⟨PyData.keyHash w.params "add", .str "add" t_OPS_0, .ref f4⟩, ⟨PyData.keyHash w.params "sub", .str "sub" t_OPS_1, .ref f5⟩, ⟨PyData.keyHash w.params "and", .str "and" t_OPS_2, .ref f6⟩, ⟨PyData.keyHash w.params "or", .str "or" t_OPS_3, .ref f7⟩, ⟨PyData.keyHash w.params "xor", .str "xor" t_OPS_4, .ref f8⟩, ⟨PyData.keyHash w.params "less", .str "less" t_OPS_5, .ref f9⟩, ⟨PyData.keyHash w.params "same", .str "same" t_OPS_6, .ref f10⟩] n_OPS, #[]⟩) (w_OPS : (d_OPS == sysModules) = false)
    {t_FIGURES : Tok} (y_FIGURES : PySem.W.nsIn K mainGlobals "FIGURES" = some (some (.str "0123456789" t_FIGURES)))
    {t_MOST_FIGURES : Tok} (y_MOST_FIGURES : PySem.W.nsIn K mainGlobals "MOST_FIGURES" = some (some (.int 9 t_MOST_FIGURES)))
    {t_MOST_LEVELS : Tok} (y_MOST_LEVELS : PySem.W.nsIn K mainGlobals "MOST_LEVELS" = some (some (.int 6 t_MOST_LEVELS)))
    {t_SIGNS : Tok} (y_SIGNS : PySem.W.nsIn K mainGlobals "SIGNS" = some (some (.str "[](){};=" t_SIGNS)))
    : ∃ a : Ad, Tx w K mg a ∧ mg "law" = some (.ref a.f_law) ∧ ∀ (s : Shared) (v : Value), BindsTo s a.fd_law ⟨[v], []⟩ [("script", v)] := by
  refine ⟨⟨f0, PySem.W.fnOf "is_whole" "is_whole" (defArgs s_is_whole) (defBody s_is_whole) (defScope s_is_whole) .none kV0 dc0 pm0 an0 cd0 ct0, f1, PySem.W.fnOf "is_within" "is_within" (defArgs s_is_within) (defBody s_is_within) (defScope s_is_within) .none kV1 dc1 pm1 an1 cd1 ct1, f2, PySem.W.fnOf "is_name" "is_name" (defArgs s_is_name) (defBody s_is_name) (defScope s_is_name) .none kV2 dc2 pm2 an2 cd2 ct2, f3, PySem.W.fnOf "is_word" "is_word" (defArgs s_is_word) (defBody s_is_word) (defScope s_is_word) .none kV3 dc3 pm3 an3 cd3 ct3, f4, PySem.W.fnOf "both_added" "both_added" (defArgs s_both_added) (defBody s_both_added) (defScope s_both_added) .none kV4 dc4 pm4 an4 cd4 ct4, f5, PySem.W.fnOf "taken_off" "taken_off" (defArgs s_taken_off) (defBody s_taken_off) (defScope s_taken_off) .none kV5 dc5 pm5 an5 cd5 ct5, f6, PySem.W.fnOf "bits_of_both" "bits_of_both" (defArgs s_bits_of_both) (defBody s_bits_of_both) (defScope s_bits_of_both) .none kV6 dc6 pm6 an6 cd6 ct6, f7, PySem.W.fnOf "bits_of_one" "bits_of_one" (defArgs s_bits_of_one) (defBody s_bits_of_one) (defScope s_bits_of_one) .none kV7 dc7 pm7 an7 cd7 ct7, f8, PySem.W.fnOf "bits_unlike" "bits_unlike" (defArgs s_bits_unlike) (defBody s_bits_unlike) (defScope s_bits_unlike) .none kV8 dc8 pm8 an8 cd8 ct8, f9, PySem.W.fnOf "is_less" "is_less" (defArgs s_is_less) (defBody s_is_less) (defScope s_is_less) .none kV9 dc9 pm9 an9 cd9 ct9, f10, PySem.W.fnOf "is_same" "is_same" (defArgs s_is_same) (defBody s_is_same) (defScope s_is_same) .none kV10 dc10 pm10 an10 cd10 ct10, f11, PySem.W.fnOf "number_in" "number_in" (defArgs s_number_in) (defBody s_number_in) (defScope s_number_in) .none kV11 dc11 pm11 an11 cd11 ct11, f12, PySem.W.fnOf "is_term" "is_term" (defArgs s_is_term) (defBody s_is_term) (defScope s_is_term) .none kV12 dc12 pm12 an12 cd12 ct12, f13, PySem.W.fnOf "are_sets" "are_sets" (defArgs s_are_sets) (defBody s_are_sets) (defScope s_are_sets) .none kV13 dc13 pm13 an13 cd13 ct13, f14, PySem.W.fnOf "are_stores" "are_stores" (defArgs s_are_stores) (defBody s_are_stores) (defScope s_are_stores) .none kV14 dc14 pm14 an14 cd14 ct14, f15, PySem.W.fnOf "is_done" "is_done" (defArgs s_is_done) (defBody s_is_done) (defScope s_is_done) .none kV15 dc15 pm15 an15 cd15 ct15, f16, PySem.W.fnOf "is_meaning" "is_meaning" (defArgs s_is_meaning) (defBody s_is_meaning) (defScope s_is_meaning) .none kV16 dc16 pm16 an16 cd16 ct16, f17, PySem.W.fnOf "show_term" "show_term" (defArgs s_show_term) (defBody s_show_term) (defScope s_show_term) .none kV17 dc17 pm17 an17 cd17 ct17, f18, PySem.W.fnOf "show_meaning" "show_meaning" (defArgs s_show_meaning) (defBody s_show_meaning) (defScope s_show_meaning) .none kV18 dc18 pm18 an18 cd18 ct18, f19, PySem.W.fnOf "words_in" "words_in" (defArgs s_words_in) (defBody s_words_in) (defScope s_words_in) .none kV19 dc19 pm19 an19 cd19 ct19, f20, PySem.W.fnOf "__init__" "Reader.__init__" (defArgs s_Reader___init__) (defBody s_Reader___init__) (defScope s_Reader___init__) .none kV20 dc20 pm20 an20 cd20 ct20, f21, PySem.W.fnOf "ahead" "Reader.ahead" (defArgs s_Reader_ahead) (defBody s_Reader_ahead) (defScope s_Reader_ahead) (.ref pD21) kV21 dc21 pm21 an21 cd21 ct21, f22, PySem.W.fnOf "take" "Reader.take" (defArgs s_Reader_take) (defBody s_Reader_take) (defScope s_Reader_take) (.ref pD22) kV22 dc22 pm22 an22 cd22 ct22, f23, PySem.W.fnOf "term" "Reader.term" (defArgs s_Reader_term) (defBody s_Reader_term) (defScope s_Reader_term) .none kV23 dc23 pm23 an23 cd23 ct23, f24, PySem.W.fnOf "way" "Reader.way" (defArgs s_Reader_way) (defBody s_Reader_way) (defScope s_Reader_way) .none kV24 dc24 pm24 an24 cd24 ct24, f25, PySem.W.fnOf "meaning" "Reader.meaning" (defArgs s_Reader_meaning) (defBody s_Reader_meaning) (defScope s_Reader_meaning) .none kV25 dc25 pm25 an25 cd25 ct25, f26, PySem.W.fnOf "done" "Reader.done" (defArgs s_Reader_done) (defBody s_Reader_done) (defScope s_Reader_done) .none kV26 dc26 pm26 an26 cd26 ct26, f27, PySem.W.fnOf "read_meaning" "read_meaning" (defArgs s_read_meaning) (defBody s_read_meaning) (defScope s_read_meaning) .none kV27 dc27 pm27 an27 cd27 ct27, f28, PySem.W.fnOf "_law_sack" "_law_sack" (defArgs s__law_sack) (defBody s__law_sack) (defScope s__law_sack) .none kV28 dc28 pm28 an28 cd28 ct28, f29, PySem.W.fnOf "_law_pull" "_law_pull" (defArgs s__law_pull) (defBody s__law_pull) (defScope s__law_pull) .none kV29 dc29 pm29 an29 cd29 ct29, f30, PySem.W.fnOf "_law_names" "_law_names" (defArgs s__law_names) (defBody s__law_names) (defScope s__law_names) .none kV30 dc30 pm30 an30 cd30 ct30, f31, PySem.W.fnOf "_law_own" "_law_own" (defArgs s__law_own) (defBody s__law_own) (defScope s__law_own) .none kV31 dc31 pm31 an31 cd31 ct31, f32, PySem.W.fnOf "_law_word" "_law_word" (defArgs s__law_word) (defBody s__law_word) (defScope s__law_word) .none kV32 dc32 pm32 an32 cd32 ct32, f33, PySem.W.fnOf "_law_term" "_law_term" (defArgs s__law_term) (defBody s__law_term) (defScope s__law_term) .none kV33 dc33 pm33 an33 cd33 ct33, f34, PySem.W.fnOf "_law_plan" "_law_plan" (defArgs s__law_plan) (defBody s__law_plan) (defScope s__law_plan) .none kV34 dc34 pm34 an34 cd34 ct34, f35, PySem.W.fnOf "_law_any_plan" "_law_any_plan" (defArgs s__law_any_plan) (defBody s__law_any_plan) (defScope s__law_any_plan) .none kV35 dc35 pm35 an35 cd35 ct35, f36, PySem.W.fnOf "_law_shown" "_law_shown" (defArgs s__law_shown) (defBody s__law_shown) (defScope s__law_shown) .none kV36 dc36 pm36 an36 cd36 ct36, f37, PySem.W.fnOf "_law_line" "_law_line" (defArgs s__law_line) (defBody s__law_line) (defScope s__law_line) .none kV37 dc37 pm37 an37 cd37 ct37, f38, PySem.W.fnOf "_law_same" "_law_same" (defArgs s__law_same) (defBody s__law_same) (defScope s__law_same) .none kV38 dc38 pm38 an38 cd38 ct38, f39, PySem.W.fnOf "_law_right" "_law_right" (defArgs s__law_right) (defBody s__law_right) (defScope s__law_right) .none kV39 dc39 pm39 an39 cd39 ct39, f40, PySem.W.fnOf "law" "law" (defArgs s_law) (defBody s_law) (defScope s_law) .none kV40 dc40 pm40 an40 cd40 ct40, cC_Reader, d_OPS⟩, ?_, PySem.W.mg_of X G a40, fun s v => .of_eq rfl⟩
  exact ⟨fun_mk (st := s_is_whole) l0 c0 k0, (fun_mk (st := s_is_whole) l0 c0 k0).binds (fun _ _ _ _ _ _ us hl => match us, hl with | [_], _ => rfl), PySem.W.mg_of X G a0,
    fun_mk (st := s_is_within) l1 c1 k1, (fun_mk (st := s_is_within) l1 c1 k1).binds (fun _ _ _ _ _ _ us hl => match us, hl with | [_, _, _], _ => rfl), PySem.W.mg_of X G a1,
    fun_mk (st := s_is_name) l2 c2 k2, (fun_mk (st := s_is_name) l2 c2 k2).binds (fun _ _ _ _ _ _ us hl => match us, hl with | [_], _ => rfl), PySem.W.mg_of X G a2,
    fun_mk (st := s_is_word) l3 c3 k3, (fun_mk (st := s_is_word) l3 c3 k3).binds (fun _ _ _ _ _ _ us hl => match us, hl with | [_, _], _ => rfl), PySem.W.mg_of X G a3,
    fun_mk (st := s_both_added) l4 c4 k4, (fun_mk (st := s_both_added) l4 c4 k4).binds (fun _ _ _ _ _ _ us hl => match us, hl with | [_, _], _ => rfl), PySem.W.mg_of X G a4,
    fun_mk (st := s_taken_off) l5 c5 k5, (fun_mk (st := s_taken_off) l5 c5 k5).binds (fun _ _ _ _ _ _ us hl => match us, hl with | [_, _], _ => rfl), PySem.W.mg_of X G a5,
    fun_mk (st := s_bits_of_both) l6 c6 k6, (fun_mk (st := s_bits_of_both) l6 c6 k6).binds (fun _ _ _ _ _ _ us hl => match us, hl with | [_, _], _ => rfl), PySem.W.mg_of X G a6,
    fun_mk (st := s_bits_of_one) l7 c7 k7, (fun_mk (st := s_bits_of_one) l7 c7 k7).binds (fun _ _ _ _ _ _ us hl => match us, hl with | [_, _], _ => rfl), PySem.W.mg_of X G a7,
    fun_mk (st := s_bits_unlike) l8 c8 k8, (fun_mk (st := s_bits_unlike) l8 c8 k8).binds (fun _ _ _ _ _ _ us hl => match us, hl with | [_, _], _ => rfl), PySem.W.mg_of X G a8,
    fun_mk (st := s_is_less) l9 c9 k9, (fun_mk (st := s_is_less) l9 c9 k9).binds (fun _ _ _ _ _ _ us hl => match us, hl with | [_, _], _ => rfl), PySem.W.mg_of X G a9,
    fun_mk (st := s_is_same) l10 c10 k10, (fun_mk (st := s_is_same) l10 c10 k10).binds (fun _ _ _ _ _ _ us hl => match us, hl with | [_, _], _ => rfl), PySem.W.mg_of X G a10,
    fun_mk (st := s_number_in) l11 c11 k11, (fun_mk (st := s_number_in) l11 c11 k11).binds (fun _ _ _ _ _ _ us hl => match us, hl with | [_], _ => rfl), PySem.W.mg_of X G a11,
    fun_mk (st := s_is_term) l12 c12 k12, (fun_mk (st := s_is_term) l12 c12 k12).binds (fun _ _ _ _ _ _ us hl => match us, hl with | [_, _, _], _ => rfl), PySem.W.mg_of X G a12,
    fun_mk (st := s_are_sets) l13 c13 k13, (fun_mk (st := s_are_sets) l13 c13 k13).binds (fun _ _ _ _ _ _ us hl => match us, hl with | [_, _, _], _ => rfl), PySem.W.mg_of X G a13,
    fun_mk (st := s_are_stores) l14 c14 k14, (fun_mk (st := s_are_stores) l14 c14 k14).binds (fun _ _ _ _ _ _ us hl => match us, hl with | [_, _, _], _ => rfl), PySem.W.mg_of X G a14,
    fun_mk (st := s_is_done) l15 c15 k15, (fun_mk (st := s_is_done) l15 c15 k15).binds (fun _ _ _ _ _ _ us hl => match us, hl with | [_, _, _], _ => rfl), PySem.W.mg_of X G a15,
    fun_mk (st := s_is_meaning) l16 c16 k16, (fun_mk (st := s_is_meaning) l16 c16 k16).binds (fun _ _ _ _ _ _ us hl => match us, hl with | [_, _], _ => rfl), PySem.W.mg_of X G a16,
    fun_mk (st := s_show_term) l17 c17 k17, (fun_mk (st := s_show_term) l17 c17 k17).binds (fun _ _ _ _ _ _ us hl => match us, hl with | [_], _ => rfl), PySem.W.mg_of X G a17,
    fun_mk (st := s_show_meaning) l18 c18 k18, (fun_mk (st := s_show_meaning) l18 c18 k18).binds (fun _ _ _ _ _ _ us hl => match us, hl with | [_], _ => rfl), PySem.W.mg_of X G a18,
    fun_mk (st := s_words_in) l19 c19 k19, (fun_mk (st := s_words_in) l19 c19 k19).binds (fun _ _ _ _ _ _ us hl => match us, hl with | [_], _ => rfl), PySem.W.mg_of X G a19,
    fun_mk (st := s_Reader___init__) l20 c20 k20, (fun_mk (st := s_Reader___init__) l20 c20 k20).binds (fun _ _ _ _ _ _ us hl => match us, hl with | [_, _], _ => rfl), ⟨mk_Reader, a20, i20, kc_Reader⟩,
    (funD_mk (st := s_Reader_ahead) (its := [.int 0 tD21_0]) (dvs := [V.int 0]) l21 c21 k21 d21 (.cons ⟨_, rfl⟩ .nil) (by simp)), binds_full (j := 1) (by decide) (binds_dflt (funD_mk (st := s_Reader_ahead) (its := [.int 0 tD21_0]) (dvs := [V.int 0]) l21 c21 k21 d21 (.cons ⟨_, rfl⟩ .nil) (by simp)) 1 (by simp) 2 rfl (fun _ _ _ _ _ _ _ us its hl hi => match us, its, hl, hi with | [_, _], [_], _, _ => ⟨_, rfl, rfl⟩)), binds_dflt (funD_mk (st := s_Reader_ahead) (its := [.int 0 tD21_0]) (dvs := [V.int 0]) l21 c21 k21 d21 (.cons ⟨_, rfl⟩ .nil) (by simp)) 0 (by simp) 1 rfl (fun _ _ _ _ _ _ _ us its hl hi => match us, its, hl, hi with | [_], [_], _, _ => ⟨_, rfl, rfl⟩), ⟨a21, i21, k21⟩,
    (funD_mk (st := s_Reader_take) (its := [.str "" tD22_0]) (dvs := [V.str ""]) l22 c22 k22 d22 (.cons ⟨_, rfl⟩ .nil) (by simp)), binds_full (j := 1) (by decide) (binds_dflt (funD_mk (st := s_Reader_take) (its := [.str "" tD22_0]) (dvs := [V.str ""]) l22 c22 k22 d22 (.cons ⟨_, rfl⟩ .nil) (by simp)) 1 (by simp) 2 rfl (fun _ _ _ _ _ _ _ us its hl hi => match us, its, hl, hi with | [_, _], [_], _, _ => ⟨_, rfl, rfl⟩)), binds_dflt (funD_mk (st := s_Reader_take) (its := [.str "" tD22_0]) (dvs := [V.str ""]) l22 c22 k22 d22 (.cons ⟨_, rfl⟩ .nil) (by simp)) 0 (by simp) 1 rfl (fun _ _ _ _ _ _ _ us its hl hi => match us, its, hl, hi with | [_], [_], _, _ => ⟨_, rfl, rfl⟩), ⟨a22, i22, k22⟩,
    fun_mk (st := s_Reader_term) l23 c23 k23, (fun_mk (st := s_Reader_term) l23 c23 k23).binds (fun _ _ _ _ _ _ us hl => match us, hl with | [_, _], _ => rfl), ⟨a23, i23, k23⟩,
    fun_mk (st := s_Reader_way) l24 c24 k24, (fun_mk (st := s_Reader_way) l24 c24 k24).binds (fun _ _ _ _ _ _ us hl => match us, hl with | [_, _, _], _ => rfl), ⟨a24, i24, k24⟩,
    fun_mk (st := s_Reader_meaning) l25 c25 k25, (fun_mk (st := s_Reader_meaning) l25 c25 k25).binds (fun _ _ _ _ _ _ us hl => match us, hl with | [_, _], _ => rfl), ⟨a25, i25, k25⟩,
    fun_mk (st := s_Reader_done) l26 c26 k26, (fun_mk (st := s_Reader_done) l26 c26 k26).binds (fun _ _ _ _ _ _ us hl => match us, hl with | [_, _], _ => rfl), ⟨a26, i26, k26⟩,
    fun_mk (st := s_read_meaning) l27 c27 k27, (fun_mk (st := s_read_meaning) l27 c27 k27).binds (fun _ _ _ _ _ _ us hl => match us, hl with | [_, _], _ => rfl), PySem.W.mg_of X G a27,
    fun_mk (st := s__law_sack) l28 c28 k28, (fun_mk (st := s__law_sack) l28 c28 k28).binds (fun _ _ _ _ _ _ us hl => match us, hl with | [_, _], _ => rfl), PySem.W.mg_of X G a28,
    fun_mk (st := s__law_pull) l29 c29 k29, (fun_mk (st := s__law_pull) l29 c29 k29).binds (fun _ _ _ _ _ _ us hl => match us, hl with | [_, _], _ => rfl), PySem.W.mg_of X G a29,
    fun_mk (st := s__law_names) l30 c30 k30, (fun_mk (st := s__law_names) l30 c30 k30).binds (fun _ _ _ _ _ _ us hl => match us, hl with | [_, _], _ => rfl), PySem.W.mg_of X G a30,
    fun_mk (st := s__law_own) l31 c31 k31, (fun_mk (st := s__law_own) l31 c31 k31).binds (fun _ _ _ _ _ _ us hl => match us, hl with | [_], _ => rfl), PySem.W.mg_of X G a31,
    fun_mk (st := s__law_word) l32 c32 k32, (fun_mk (st := s__law_word) l32 c32 k32).binds (fun _ _ _ _ _ _ us hl => match us, hl with | [_, _], _ => rfl), PySem.W.mg_of X G a32,
    fun_mk (st := s__law_term) l33 c33 k33, (fun_mk (st := s__law_term) l33 c33 k33).binds (fun _ _ _ _ _ _ us hl => match us, hl with | [_, _, _], _ => rfl), PySem.W.mg_of X G a33,
    fun_mk (st := s__law_plan) l34 c34 k34, (fun_mk (st := s__law_plan) l34 c34 k34).binds (fun _ _ _ _ _ _ us hl => match us, hl with | [_, _, _], _ => rfl), PySem.W.mg_of X G a34,
    fun_mk (st := s__law_any_plan) l35 c35 k35, (fun_mk (st := s__law_any_plan) l35 c35 k35).binds (fun _ _ _ _ _ _ us hl => match us, hl with | [_, _], _ => rfl), PySem.W.mg_of X G a35,
    fun_mk (st := s__law_shown) l36 c36 k36, (fun_mk (st := s__law_shown) l36 c36 k36).binds (fun _ _ _ _ _ _ us hl => match us, hl with | [_], _ => rfl), PySem.W.mg_of X G a36,
    fun_mk (st := s__law_line) l37 c37 k37, (fun_mk (st := s__law_line) l37 c37 k37).binds (fun _ _ _ _ _ _ us hl => match us, hl with | [_], _ => rfl), PySem.W.mg_of X G a37,
    fun_mk (st := s__law_same) l38 c38 k38, (fun_mk (st := s__law_same) l38 c38 k38).binds (fun _ _ _ _ _ _ us hl => match us, hl with | [_, _], _ => rfl), PySem.W.mg_of X G a38,
    fun_mk (st := s__law_right) l39 c39 k39, (fun_mk (st := s__law_right) l39 c39 k39).binds (fun _ _ _ _ _ _ us hl => match us, hl with | [_], _ => rfl), PySem.W.mg_of X G a39,
    fun_mk (st := s_law) l40 c40 k40, (fun_mk (st := s_law) l40 c40 k40).binds (fun _ _ _ _ _ _ us hl => match us, hl with | [_], _ => rfl), PySem.W.mg_of X G a40,
    fun s ws hl => match ws, hl with | [_, _], _ => .of_eq rfl,
    fun s ws hl => match ws, hl with | [_], _ => .of_eq rfl,
    PySem.W.mg_none_of X G z_all,
    PySem.W.mg_none_of X G z_bool,
    PySem.W.mg_none_of X G z_enumerate,
    PySem.W.mg_none_of X G z_int,
    PySem.W.mg_none_of X G z_isinstance,
    PySem.W.mg_none_of X G z_len,
    PySem.W.mg_none_of X G z_list,
    PySem.W.mg_none_of X G z_max,
    PySem.W.mg_none_of X G z_min,
    PySem.W.mg_none_of X G z_range,
    PySem.W.mg_none_of X G z_set,
    PySem.W.mg_none_of X G z_str,
    PySem.W.mg_none_of X G z_tuple,
    PySem.W.mg_none_of X G z_zip,
    PySem.W.mg_of X G aC_Reader, ⟨pg_Reader, hd_Reader, po_Reader, sa_Reader⟩,
    na_Reader_words,
    na_Reader_at,
    ⟨_, PySem.W.mg_of X G y_MOST_SIGNS⟩,
    ⟨_, PySem.W.mg_of X G y_LETTERS⟩,
    ⟨_, PySem.W.mg_of X G y_OPS, kc_ref⟩,
    kd_mk [("add", t_OPS_0, .ref f4), ("sub", t_OPS_1, .ref f5), ("and", t_OPS_2, .ref f6), ("or", t_OPS_3, .ref f7), ("xor", t_OPS_4, .ref f8), ("less", t_OPS_5, .ref f9), ("same", t_OPS_6, .ref f10)] l_OPS w_OPS (.cons kc_ref (.cons kc_ref (.cons kc_ref (.cons kc_ref (.cons kc_ref (.cons kc_ref (.cons kc_ref .nil))))))),
    ⟨_, PySem.W.mg_of X G y_FIGURES⟩,
    ⟨_, PySem.W.mg_of X G y_MOST_FIGURES⟩,
    ⟨_, PySem.W.mg_of X G y_MOST_LEVELS⟩,
    ⟨_, PySem.W.mg_of X G y_SIGNS⟩⟩
def sp_law : DSp := fun ds G R => match ds with
  | [.lst xs] => ∃ ns : List Int, xs = ns.map D.int ∧ ns.length ≤ 63 ∧ ∀ G', R (.bl true) G'
  | _ => False
theorem enumD_mem : ∀ (ds : List D) (lo : Int) {x : D}, x ∈ enumD lo ds → ∃ k d, x = .tup [.int k, d] ∧ lo ≤ k ∧ k < lo + ds.length ∧ d ∈ ds
  | [], lo, x, h => by cases h
  | d :: ds, lo, x, h => by
    rcases List.mem_cons.mp h with h | h
    · exact ⟨lo, d, h, by omega, by simp only [List.length_cons]; omega, List.mem_cons_self ..⟩
    · obtain ⟨k, e, h1, h2, h3, h4⟩ := enumD_mem ds (lo + 1) h
      exact ⟨k, e, h1, by omega, by simp only [List.length_cons]; omega, List.mem_cons_of_mem _ h4⟩
theorem cut_ints (ns : List Int) (hi : Option Int) (hl : ns.length ≤ 63) : (cutL (List.map D.int ns ++ [D.int 0]) none hi).length ≤ 64 ∧ ∀ d ∈ cutL (List.map D.int ns ++ [D.int 0]) none hi, ∃ c : Int, d = .int c := by
  unfold cutL
  refine ⟨by rw [List.length_take, List.length_drop, List.length_append, List.length_map]; simp only [List.length_cons, List.length_nil]; omega, fun d hd => ?_⟩
  rcases List.mem_append.mp (List.mem_of_mem_drop (List.mem_of_mem_take hd)) with h | h
  · obtain ⟨c, _, rfl⟩ := List.mem_map.mp h; exact ⟨c, rfl⟩
  · rw [List.mem_singleton] at h; exact ⟨0, h⟩
theorem ok_law {P : Program} {w : World} {K : PySem.W.Frag} {mg : Str → Option Value} {base : Heap} {a : Ad} (T : Tx w K mg a) : FnD P w K mg base 29 a.f_law a.fd_law ["script"] sp_law := by
  refine fun_okD T.F_law sc_law (fun ds G R h => ?_) (fun cdv A outer s H hr => ⟨_, (qss_cons (qs_for PassesOwn.never rfl (qi_enum rfl T.n_enumerate (qa_cons (qe_slice false (qe_op (od_add false) (qv 0) (qe_lst false (qa_cons qe_int qa_nil))) qo_none (qo_some (qe_callB (cd_max2 rfl) rfl T.n_max (by decide +kernel) (qa_cons qe_int (qa_cons (qe_callB (cd_min2 rfl) rfl T.n_min (by decide +kernel) (qa_cons (qe_callB cd_len rfl T.n_len (by decide +kernel) (qa_cons (qv 0) qa_nil)) (qa_cons qe_int qa_nil))) qa_nil))))) qa_nil)) (qg_of (pg_tup rfl (pgs_cons (pg_name (i := 1) sc_law.nd rfl (.inl rfl)) (pgs_cons (pg_name (i := 2) sc_law.nd rfl (.inl rfl)) pgs_nil))) (tg_names (is := [1, 2]) (ws := [1, 2]) (by decide) rfl))
      (qss_one (qs_if (qt_not (qt_val (qe_call (ok__law_right T) (hr.mono (by omega)) rfl T.g__law_right T.F__law_right.kp T.b__law_right (qa_cons (qe_call (ok__law_sack T) (hr.mono (by omega)) rfl T.g__law_sack T.F__law_sack.kp T.b__law_sack (qa_cons (qv 2) (qa_cons (qv 1) qa_nil))) qa_nil))))
      (qss_one (qs_ret qe_bl))
      qss_nil)))
      (qss_one (qs_ret qe_bl))), fun ds G R h => ?_⟩)
  · unfold sp_law at h; split at h; rfl; exact h.elim
  · unfold sp_law at h
    split at h
    · obtain ⟨ns, rfl, hl, h⟩ := h
      walk_at "d"
      walk_at "o"
      refine ⟨by decide, small_line (by simp only [List.length_map, List.length_cons, List.length_nil]; omega), ?_⟩
      obtain ⟨hc1, hc2⟩ := cut_ints ns (some (if (if 16 < ((List.map D.int ns).length : Int) then 16 else ((List.map D.int ns).length : Int)) > 1 then if 16 < ((List.map D.int ns).length : Int) then 16 else ((List.map D.int ns).length : Int) else 1)) hl
      refine for_go (fun rest σ _ => (∀ x ∈ rest, ∃ k c : Int, x = .tup [.int k, .int c] ∧ 0 ≤ k ∧ k ≤ 1000) ∧ ∃ x1 x2, σ = [some (D.lst (List.map D.int ns)), x1, x2]) ?turn ?fin _ _ _ ⟨?init, none, none, rfl⟩
      case init =>
        intro x hx
        obtain ⟨k, d, rfl, h1, h2, h3⟩ := enumD_mem _ _ hx
        obtain ⟨c, rfl⟩ := hc2 d h3
        exact ⟨k, c, rfl, h1, by omega⟩
      case fin =>
        rintro σ G' ⟨_, x1, x2, rfl⟩
        exact ⟨True.intro, ret_same (h _)⟩
      case turn =>
        rintro x rest σ G' ⟨hx, x1, x2, rfl⟩
        refine ⟨True.intro, fun N hN => ?_⟩
        obtain ⟨k, c, rfl, hk1, hk2⟩ := hx x (List.mem_cons_self ..)
        walk_at "d"
        refine ⟨rfl, hk1, hk2, fun p o np ho => ?_⟩
        refine ⟨p, o, rfl, gup_same, ho, fun o' => ?_⟩
        walk_at "d"
        exact hN _ _ ⟨fun y hy => hx y (List.mem_cons_of_mem _ hy), _, _, rfl⟩
    · exact h.elim
def spV_law (K : PySem.W.Frag) : Sp := upSp K sp_law
theorem rds_ints {K : PySem.W.Frag} {H : Hp} {N : Ns} : ∀ ns : List Int, RDs K H N (ns.map D.int) (ns.map V.int)
  | [] => by simp only [List.map_nil, RDs]
  | n :: ns => by simp only [List.map_cons, RDs]; exact ⟨_, _, rfl, by simp only [RD], rds_ints ns⟩
theorem spV_at {K : PySem.W.Frag} {H : Hp} {a : Addr} {ns : List Int} (hl : ns.length ≤ 63) (hb : ∀ z ∈ ns, Builtin.Int.intBits z ≤ 1048576) (hS : SqL K H a (ns.map V.int)) : spV_law K [.ref a] H (fun v _ => v = .bl true) (fun _ _ _ => False) := by
  have hA : LstAt K H (fun _ => False) a (ns.map V.int) := by
    rcases hS with (h | h) | h
    · exact .inl ⟨h, fun z => z⟩
    · exact .inr (.inl h)
    · exact .inr (.inr h)
  refine ⟨[.lst (ns.map D.int)], fun _ => none, fun _ => False, fun d _ => d = .bl true, ?_, fun p o e => (by cases e), ⟨ns, rfl, hl, fun _ => rfl⟩, fun d G' N' v H' hd _ r => ?_⟩
  · simp only [RDs]
    exact ⟨_, [], rfl, RD.lst hA (rds_ints ns), rfl⟩
  · subst hd
    exact r.of_bl
end K19
open PySem PySem.W PyProof.Rows
set_option maxHeartbeats 0 in
theorem PySem.Challenge.cw_steploft_k19_meanings_written_and_read_holds : PySem.Challenge.rw_steploft_k19_meanings_written_and_read.Holds := by
  w_on; o_law; k_head; (case hw => w_witness2)
  k_fill
  refine L2.walk_ofB (l := PySem.Challenge.rw_steploft_k19_meanings_written_and_read) (n := 63) (k := 29) (x := "script") (CX := fun _ => L2.CX0) (sp := fun w => K19.spV_law _) rfl (by decide) rfl ⟨rfl, by decide, by decide⟩ (fun w h Y => PySem.W.kIn_of Y) ?F (fun _ H a ns hl hb _ hS => K19.spV_at hl hb hS) (fun _ _ _ _ _ h => h)
  case F =>
    intro w mg fa h KX G hmg
    have z := DL.at_K KX (fun K' => ∃ a : K19.Ad, K19.Tx w K' mg a ∧ mg "law" = some (.ref a.f_law) ∧ ∀ (s : Shared) (v : Value), BindsTo s a.fd_law ⟨[v], []⟩ [("script", v)]) (by
      refine' K19.all_mk KX G ?aC_Reader ?pg_Reader ?hd_Reader ?po_Reader ?sa_Reader ?mk_Reader ?kc_Reader ?na_Reader_words ?na_Reader_at ?a0 ?l0 ?c0 ?k0 ?a1 ?l1 ?c1 ?k1 ?a2 ?l2 ?c2 ?k2 ?a3 ?l3 ?c3 ?k3 ?a4 ?l4 ?c4 ?k4 ?a5 ?l5 ?c5 ?k5 ?a6 ?l6 ?c6 ?k6 ?a7 ?l7 ?c7 ?k7 ?a8 ?l8 ?c8 ?k8 ?a9 ?l9 ?c9 ?k9 ?a10 ?l10 ?c10 ?k10 ?a11 ?l11 ?c11 ?k11 ?a12 ?l12 ?c12 ?k12 ?a13 ?l13 ?c13 ?k13 ?a14 ?l14 ?c14 ?k14 ?a15 ?l15 ?c15 ?k15 ?a16 ?l16 ?c16 ?k16 ?a17 ?l17 ?c17 ?k17 ?a18 ?l18 ?c18 ?k18 ?a19 ?l19 ?c19 ?k19 ?a20 ?i20 ?l20 ?c20 ?k20 ?a21 ?i21 ?d21 ?l21 ?c21 ?k21 ?a22 ?i22 ?d22 ?l22 ?c22 ?k22 ?a23 ?i23 ?l23 ?c23 ?k23 ?a24 ?i24 ?l24 ?c24 ?k24 ?a25 ?i25 ?l25 ?c25 ?k25 ?a26 ?i26 ?l26 ?c26 ?k26 ?a27 ?l27 ?c27 ?k27 ?a28 ?l28 ?c28 ?k28 ?a29 ?l29 ?c29 ?k29 ?a30 ?l30 ?c30 ?k30 ?a31 ?l31 ?c31 ?k31 ?a32 ?l32 ?c32 ?k32 ?a33 ?l33 ?c33 ?k33 ?a34 ?l34 ?c34 ?k34 ?a35 ?l35 ?c35 ?k35 ?a36 ?l36 ?c36 ?k36 ?a37 ?l37 ?c37 ?k37 ?a38 ?l38 ?c38 ?k38 ?a39 ?l39 ?c39 ?k39 ?a40 ?l40 ?c40 ?k40 ?z_all ?z_bool ?z_enumerate ?z_int ?z_isinstance ?z_len ?z_list ?z_max ?z_min ?z_range ?z_set ?z_str ?z_tuple ?z_zip ?y_MOST_SIGNS ?y_LETTERS ?y_OPS ?l_OPS ?w_OPS ?y_FIGURES ?y_MOST_FIGURES ?y_MOST_LEVELS ?y_SIGNS
      (case aC_Reader => k_is); (case pg_Reader => k_is); (case hd_Reader => k_is); (case po_Reader => k_is); (case sa_Reader => k_is); (case mk_Reader => k_is); (case kc_Reader => k_is); (case na_Reader_words => k_is); (case na_Reader_at => k_is); (case a0 => k_is); (case l0 => k_is); (case c0 => k_is); (case k0 => k_is); (case a1 => k_is); (case l1 => k_is); (case c1 => k_is); (case k1 => k_is); (case a2 => k_is); (case l2 => k_is); (case c2 => k_is); (case k2 => k_is); (case a3 => k_is); (case l3 => k_is); (case c3 => k_is); (case k3 => k_is); (case a4 => k_is); (case l4 => k_is); (case c4 => k_is); (case k4 => k_is); (case a5 => k_is); (case l5 => k_is); (case c5 => k_is); (case k5 => k_is); (case a6 => k_is); (case l6 => k_is); (case c6 => k_is); (case k6 => k_is); (case a7 => k_is); (case l7 => k_is); (case c7 => k_is); (case k7 => k_is); (case a8 => k_is); (case l8 => k_is); (case c8 => k_is); (case k8 => k_is); (case a9 => k_is); (case l9 => k_is); (case c9 => k_is); (case k9 => k_is); (case a10 => k_is); (case l10 => k_is); (case c10 => k_is); (case k10 => k_is); (case a11 => k_is); (case l11 => k_is); (case c11 => k_is); (case k11 => k_is); (case a12 => k_is); (case l12 => k_is); (case c12 => k_is); (case k12 => k_is); (case a13 => k_is); (case l13 => k_is); (case c13 => k_is); (case k13 => k_is); (case a14 => k_is); (case l14 => k_is); (case c14 => k_is); (case k14 => k_is); (case a15 => k_is); (case l15 => k_is); (case c15 => k_is); (case k15 => k_is); (case a16 => k_is); (case l16 => k_is); (case c16 => k_is); (case k16 => k_is); (case a17 => k_is); (case l17 => k_is); (case c17 => k_is); (case k17 => k_is); (case a18 => k_is); (case l18 => k_is); (case c18 => k_is); (case k18 => k_is); (case a19 => k_is); (case l19 => k_is); (case c19 => k_is); (case k19 => k_is); (case a20 => k_is); (case i20 => k_is); (case l20 => k_is); (case c20 => k_is); (case k20 => k_is); (case a21 => k_is); (case i21 => k_is); (case l21 => k_is); (case c21 => k_is); (case k21 => k_is); (case d21 => k_is); (case a22 => k_is); (case i22 => k_is); (case l22 => k_is); (case c22 => k_is); (case k22 => k_is); (case d22 => k_is); (case a23 => k_is); (case i23 => k_is); (case l23 => k_is); (case c23 => k_is); (case k23 => k_is); (case a24 => k_is); (case i24 => k_is); (case l24 => k_is); (case c24 => k_is); (case k24 => k_is); (case a25 => k_is); (case i25 => k_is); (case l25 => k_is); (case c25 => k_is); (case k25 => k_is); (case a26 => k_is); (case i26 => k_is); (case l26 => k_is); (case c26 => k_is); (case k26 => k_is); (case a27 => k_is); (case l27 => k_is); (case c27 => k_is); (case k27 => k_is); (case a28 => k_is); (case l28 => k_is); (case c28 => k_is); (case k28 => k_is); (case a29 => k_is); (case l29 => k_is); (case c29 => k_is); (case k29 => k_is); (case a30 => k_is); (case l30 => k_is); (case c30 => k_is); (case k30 => k_is); (case a31 => k_is); (case l31 => k_is); (case c31 => k_is); (case k31 => k_is); (case a32 => k_is); (case l32 => k_is); (case c32 => k_is); (case k32 => k_is); (case a33 => k_is); (case l33 => k_is); (case c33 => k_is); (case k33 => k_is); (case a34 => k_is); (case l34 => k_is); (case c34 => k_is); (case k34 => k_is); (case a35 => k_is); (case l35 => k_is); (case c35 => k_is); (case k35 => k_is); (case a36 => k_is); (case l36 => k_is); (case c36 => k_is); (case k36 => k_is); (case a37 => k_is); (case l37 => k_is); (case c37 => k_is); (case k37 => k_is); (case a38 => k_is); (case l38 => k_is); (case c38 => k_is); (case k38 => k_is); (case a39 => k_is); (case l39 => k_is); (case c39 => k_is); (case k39 => k_is); (case a40 => k_is); (case l40 => k_is); (case c40 => k_is); (case k40 => k_is); (case z_all => k_is); (case z_bool => k_is); (case z_enumerate => k_is); (case z_int => k_is); (case z_isinstance => k_is); (case z_len => k_is); (case z_list => k_is); (case z_max => k_is); (case z_min => k_is); (case z_range => k_is); (case z_set => k_is); (case z_str => k_is); (case z_tuple => k_is); (case z_zip => k_is); (case y_MOST_SIGNS => k_is); (case y_LETTERS => k_is); (case y_OPS => k_is); (case l_OPS => k_is); (case w_OPS => rfl); (case y_FIGURES => k_is); (case y_MOST_FIGURES => k_is); (case y_MOST_LEVELS => k_is); (case y_SIGNS => k_is))
    obtain ⟨a, T, hm, hb⟩ := z
    have e := hmg.symm.trans hm
    cases e
    exact ⟨_, hb, fun base _ _ => K19.ok_law T⟩




