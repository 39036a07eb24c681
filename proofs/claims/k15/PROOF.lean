import PyProof.Rows.All
import Wide.All
import OpenK.AllK
import Wide.FinOn
import HandS.ForMost
import HandS.Nested
import HandS.Wide
import HandS.WideBits
import HandS.TupAny
import HandS.IsInst
import HandS.Style
import HandS.Strs
import HandS.Zip
import HandS.EndBits
import KE.KUnpackStar
import HandS.More
import KE.GoesNew
import KE.GoesMore
import KE.GoesEnum
import PyProof.EqKinds
import PyProof.FactsAll.dict_1
import PyProof.FactsAll.subtypes_3
import PyProof.FactsAll.subtypes_4
import PyProof.Rows.EqBoolInt
import KE.SortKeyed
import HandS.SortKw
import HandS.Deep
import KE.DataFind
import KE.DataCmp
import HandS.CallLocal
import PyProof.FitsInt
import HandS.RaiseMore
import PyProof.TupleKey
import HandS.TupSets
import PyProof.SumAny
import HandS.NoneIn
import HandS.Conv
import KE.DatumOrd
import PyProof.MaxThree
import KE.KDictZip
import HandS.Small
import PyProof.Rows.TupAdd
import KE.SortData
import KE.KDictList
import KE.KDictPairs
import HandS.ExcCtx
import HandS.ExcOwn
import HandS.TryOnly
import HandS.WordsExc
import HandS.DictComp
import KE.KAsSuite
import HandS.TryMany
import HandS.ExcIs
import HandS.ExcValue
import KE.KExcIs
import HandS.TupLen
import KE.KDictCopyH
import HandS.TupMul
import HandS.FStr
import HandS.Finally
import HandS.Defaults
import KE.GoesZip
import HandS.EndTab
import KE.DataMinMax
import PyProof.Rows.RowBridgeK
import HandS.MakeKw
import HandS.MakeKwOnly
import HandS.ExcInit
import HandS.ExcField
import HandS.HotCalls
import PyProof.Rows.StrMul
import PySem.Challenge.RW_steploft_k15_texts_of_no_machine
set_option Elab.async false
set_option linter.all false
set_option maxRecDepth 100000
set_option maxHeartbeats 4000000
namespace DL
open PySem PySem.Spec PyProof.Rows L2
set_option autoImplicit false

/-! ### data -/
/-- data: lst is a list that nobody changes any more; ref a thing that G knows (or that doesn't matter); any: some thing of this type -/
inductive D where
  | non | bl (b : Bool) | int (i : Int) | str (x : Str) | ty (n : String) | ref (a : Addr) | any (n : String) | nt (zs : List Str) | tup (ds : List D) | lst (ds : List D)
/-- what stands at an address, by data -/
inductive GO where
  | lst (ds : List D) | dK (kvs : List (Key × D)) | dT (kvs : List (List Key × D)) | ins (C dx : Addr) (fs : List (Str × D)) | dX (ok : List (D × D) → Prop) (hs : D → Int) (kvs : List (D × D)) | ex (cls : Value) (fs : List (Str × D)) | tab (q : Str) | fK (ob : Obj) (us : List (Key × V)) (kvs : List (Key × D)) | tn (ds : List D)
abbrev Gp := Addr → Option GO
def gup (G : Gp) (a : Addr) (o : GO) : Gp := fun b => if b = a then some o else G b
theorem gup_same {G : Gp} {a : Addr} {o : GO} : gup G a o a = some o := by unfold gup; rw [if_pos rfl]
theorem gup_ne {G : Gp} {a b : Addr} {o : GO} (h : b ≠ a) : gup G a o b = G b := by unfold gup; rw [if_neg h]
theorem gup_gup {G : Gp} {a : Addr} {o u : GO} : gup (gup G a o) a u = gup G a u := by
  funext b; unfold gup; split <;> rfl
theorem gne {G : Gp} {a b : Addr} {o : GO} (h : G a = some o) (h' : G b = none) : a ≠ b := by
  intro e; subst e; rw [h] at h'; cases h'
/-- all but one -/
def gdel (G : Gp) (a : Addr) : Gp := fun b => if b = a then none else G b
def knd : HO → String
  | .lst _ => "list" | .tup _ => "tuple" | .dK _ => "dict" | .dT _ => "dict" | .set _ _ => "set" | .ins _ _ _ => "ins" | .frz _ (.lst _) => "list" | .frz _ (.tup _) => "tuple" | .frz _ (.dK _) => "dict" | _ => ""
abbrev Ns := Addr → Prop
def nadd (N : Ns) (p : Addr) : Ns := fun q => q = p ∨ N q
def ndel (N : Ns) (p : Addr) : Ns := fun q => q ≠ p ∧ N q
/-- a list that nobody changes: N tells the addresses of which this is not said -/
def LstAt (K : PySem.W.Frag) (H : Hp) (N : Ns) (a : Addr) (xs : List V) : Prop :=
  (H a = some (.lst xs) ∧ ¬ N a) ∨ (∃ o, H a = some (.frz o (.lst xs))) ∨ ∃ (o : Obj) (its : Array Value) (n : Nat), K.lookup a = some o ∧ o.cls = .type "list" ∧ o.dict = none ∧ o.data = .seq its n ∧ its.size ≤ sizeLine ∧ Vals xs its.toList
theorem LstAt.sq {K : PySem.W.Frag} {H : Hp} {N : Ns} {a : Addr} {xs : List V} (h : LstAt K H N a xs) : SqL K H a xs := by
  rcases h with h | h | h
  · exact .inl (.inl h.1)
  · exact .inl (.inr h)
  · exact .inr h
/-- a tuple of texts of which it is known that it has no dict (its methods may be called) -/
def NtAt (K : PySem.W.Frag) (H : Hp) (p : Addr) (zs : List Str) : Prop :=
  (∃ o, H p = some (.frz o (.tup (zs.map V.str))) ∧ o.cls = .type "tuple" ∧ o.dict = none) ∨ ∃ (o : Obj) (its : Array Value) (n : Nat), K.lookup p = some o ∧ o.cls = .type "tuple" ∧ o.dict = none ∧ o.data = .seq its n ∧ its.size ≤ sizeLine ∧ Vals (zs.map V.str) its.toList
theorem NtAt.sq {K : PySem.W.Frag} {H : Hp} {p : Addr} {zs : List Str} (h : NtAt K H p zs) : SqT K H p (zs.map V.str) := by
  rcases h with ⟨o, h, _⟩ | ⟨o, its, n, h1, h2, h3, h4, h5, h6⟩
  · exact .inl (.inr ⟨o, h⟩)
  · exact .inr ⟨o, its, n, h1, h2, h4, h5, h6⟩
mutual
def RD (K : PySem.W.Frag) (H : Hp) (N : Ns) : D → V → Prop
  | .non, v => v = .non
  | .bl b, v => v = .bl b
  | .int i, v => v = .int i
  | .str x, v => v = .str x
  | .ty n, v => v = .ty n
  | .ref a, v => v = .ref a
  | .any n, v => ∃ a u, v = .ref a ∧ H a = some u ∧ knd u = n
  | .nt zs, v => ∃ p, v = .ref p ∧ NtAt K H p zs
  | .tup ds, v => ∃ p vs, v = .ref p ∧ SqT K H p vs ∧ RDs K H N ds vs
  | .lst ds, v => ∃ p vs, v = .ref p ∧ LstAt K H N p vs ∧ RDs K H N ds vs
def RDs (K : PySem.W.Frag) (H : Hp) (N : Ns) : List D → List V → Prop
  | [], vs => vs = []
  | d :: ds, vs => ∃ v r, vs = v :: r ∧ RD K H N d v ∧ RDs K H N ds r
end
structure KLe (H H' : Hp) : Prop where
  tup : ∀ p xs, H p = some (.tup xs) → H' p = some (.tup xs)
  ktup : ∀ p o xs, H p = some (.frz o (.tup xs)) → H' p = some (.frz o (.tup xs))
  klst : ∀ p o xs, H p = some (.frz o (.lst xs)) → H' p = some (.frz o (.lst xs))
  kind : ∀ p u, H p = some u → ∃ u', H' p = some u' ∧ knd u' = knd u
  kxd : ∀ p fs, H p = some (.xd fs) → H' p = some (.xd fs)
  kco : ∀ p q, H p = some (LamX.CodeO p q) → H' p = some (LamX.CodeO p q)
theorem KLe.refl (H : Hp) : KLe H H := ⟨fun _ _ h => h, fun _ _ _ h => h, fun _ _ _ h => h, fun _ u h => ⟨u, h, rfl⟩, fun _ _ h => h, fun _ _ h => h⟩
theorem KLe.trans {H H1 H2 : Hp} (a : KLe H H1) (b : KLe H1 H2) : KLe H H2 :=
  ⟨fun p xs h => b.tup p xs (a.tup p xs h), fun p o xs h => b.ktup p o xs (a.ktup p o xs h), fun p o xs h => b.klst p o xs (a.klst p o xs h), fun p u h => by
    obtain ⟨u1, h1, e1⟩ := a.kind p u h
    obtain ⟨u2, h2, e2⟩ := b.kind p u1 h1
    exact ⟨u2, h2, e2.trans e1⟩, fun p fs h => b.kxd p fs (a.kxd p fs h), fun p q h => b.kco p q (a.kco p q h)⟩
theorem KLe.fresh {H : Hp} {p : Addr} {o : HO} (h : H p = none) : KLe H (upd H p o) :=
  ⟨fun q xs e => by rw [upd_ne (ne_of_none e h)]; exact e, fun q _ xs e => by rw [upd_ne (ne_of_none e h)]; exact e, fun q _ xs e => by rw [upd_ne (ne_of_none e h)]; exact e, fun q u e => ⟨u, by rw [upd_ne (ne_of_none e h)]; exact e, rfl⟩, fun q fs e => by rw [upd_ne (ne_of_none e h)]; exact e, fun q fs e => by rw [upd_ne (ne_of_none e h)]; exact e⟩
def mutH : HO → Bool
  | .lst _ => true | .dK _ => true | .dT _ => true | .ins _ _ _ => true | .set _ _ => true | _ => false
def mutX : HO → Bool
  | .lst _ => true | .dK _ => true | .dT _ => true | .ins _ _ _ => true | .set _ _ => true | .ext _ => true | .tbl _ => true | .frz _ (.dK _) => true | _ => false
/-- what may be changed: no code object -/
def Chg (p : Addr) (u : HO) : Prop := mutX u = true ∧ ∀ q, u ≠ LamX.CodeO p q
theorem Chg.of {p : Addr} {u : HO} (m : mutH u = true) : Chg p u := by
  refine ⟨?_, fun q e => ?_⟩
  · cases u <;> first | rfl | (cases m)
  · rw [e] at m; cases m
theorem KLe.writeC {H : Hp} {p : Addr} {o u : HO} (h : H p = some u) (m : Chg p u) (k : knd o = knd u) : KLe H (upd H p o) := by
  have ne : ∀ q x, H q = some x → mutX x = false → q ≠ p := fun q x e n z => by
    subst z; rw [h] at e; cases e; rw [m.1] at n; cases n
  refine ⟨fun q xs e => ?_, fun q _ xs e => ?_, fun q _ xs e => ?_, fun q x e => ?_, fun q fs e => by rw [upd_ne (ne q _ e rfl)]; exact e, fun q z e => ?_⟩
  · rw [upd_ne (ne q _ e rfl)]; exact e
  · rw [upd_ne (ne q _ e rfl)]; exact e
  · rw [upd_ne (ne q _ e rfl)]; exact e
  · by_cases z : q = p
    · subst z; rw [h] at e; cases e; exact ⟨o, upd_same, k⟩
    · exact ⟨x, by rw [upd_ne z]; exact e, rfl⟩
  · have hq : q ≠ p := fun y => by
      subst y; rw [h] at e; exact m.2 z (Option.some.inj e)
    rw [upd_ne hq]; exact e
theorem KLe.write {H : Hp} {p : Addr} {o u : HO} (h : H p = some u) (m : mutH u = true) (k : knd o = knd u) : KLe H (upd H p o) := KLe.writeC h (.of m) k
/-- data stay data -/
structure Kp (H : Hp) (N : Ns) (H' : Hp) (N' : Ns) : Prop where
  kle : KLe H H'
  nv : ∀ p xs, H p = some (.lst xs) → ¬ N p → H' p = some (.lst xs) ∧ ¬ N' p
theorem Kp.refl (H : Hp) (N : Ns) : Kp H N H N := ⟨KLe.refl H, fun _ _ h n => ⟨h, n⟩⟩
theorem Kp.trans {H H1 H2 : Hp} {N N1 N2 : Ns} (a : Kp H N H1 N1) (b : Kp H1 N1 H2 N2) : Kp H N H2 N2 :=
  ⟨a.kle.trans b.kle, fun p u h n => by obtain ⟨h1, n1⟩ := a.nv p u h n; exact b.nv p u h1 n1⟩
theorem SqT.le {K : PySem.W.Frag} {H H' : Hp} {a : Addr} {xs : List V} (l : KLe H H') (h : SqT K H a xs) : SqT K H' a xs := by
  rcases h with (h | ⟨o, h⟩) | h
  · exact .inl (.inl (l.tup _ _ h))
  · exact .inl (.inr ⟨o, l.ktup _ _ _ h⟩)
  · exact .inr h
theorem LstAt.le {K : PySem.W.Frag} {H H' : Hp} {N N' : Ns} {a : Addr} {xs : List V} (l : Kp H N H' N') (h : LstAt K H N a xs) : LstAt K H' N' a xs := by
  rcases h with ⟨h, n⟩ | ⟨o, h⟩ | h
  · exact .inl (l.nv _ _ h n)
  · exact .inr (.inl ⟨o, l.kle.klst _ _ _ h⟩)
  · exact .inr (.inr h)
mutual
theorem RD.le {K : PySem.W.Frag} {H H' : Hp} {N N' : Ns} (l : Kp H N H' N') : ∀ {d : D} {v : V}, RD K H N d v → RD K H' N' d v
  | .non, _, h => by simpa only [RD] using h
  | .bl _, _, h => by simpa only [RD] using h
  | .int _, _, h => by simpa only [RD] using h
  | .str _, _, h => by simpa only [RD] using h
  | .ty _, _, h => by simpa only [RD] using h
  | .ref _, _, h => by simpa only [RD] using h
  | .any n, v, h => by
    simp only [RD] at h ⊢
    obtain ⟨a, u, e, hu, k⟩ := h
    obtain ⟨u', hu', k'⟩ := l.kle.kind a u hu
    exact ⟨a, u', e, hu', k'.trans k⟩
  | .nt zs, v, h => by
    simp only [RD] at h ⊢
    obtain ⟨p, e, s⟩ := h
    refine ⟨p, e, ?_⟩
    rcases s with ⟨o, s, r⟩ | s
    · exact .inl ⟨o, l.kle.ktup _ _ _ s, r⟩
    · exact .inr s
  | .tup ds, v, h => by
    simp only [RD] at h ⊢
    obtain ⟨p, vs, e, s, r⟩ := h
    exact ⟨p, vs, e, SqT.le l.kle s, RDs.le l r⟩
  | .lst ds, v, h => by
    simp only [RD] at h ⊢
    obtain ⟨p, vs, e, s, r⟩ := h
    exact ⟨p, vs, e, LstAt.le l s, RDs.le l r⟩
theorem RDs.le {K : PySem.W.Frag} {H H' : Hp} {N N' : Ns} (l : Kp H N H' N') : ∀ {ds : List D} {vs : List V}, RDs K H N ds vs → RDs K H' N' ds vs
  | [], _, h => by simpa only [RDs] using h
  | d :: ds, _, h => by
    simp only [RDs] at h ⊢
    obtain ⟨v, r, e, h1, h2⟩ := h
    exact ⟨v, r, e, RD.le l h1, RDs.le l h2⟩
end
section
variable {K : PySem.W.Frag} {H : Hp} {N : Ns}
theorem RD.non : RD K H N .non .non := by simp only [RD]
theorem RD.bl (b : Bool) : RD K H N (.bl b) (.bl b) := by simp only [RD]
theorem RD.int (i : Int) : RD K H N (.int i) (.int i) := by simp only [RD]
theorem RD.str (x : Str) : RD K H N (.str x) (.str x) := by simp only [RD]
theorem RD.ty (n : String) : RD K H N (.ty n) (.ty n) := by simp only [RD]
theorem RD.ref (a : Addr) : RD K H N (.ref a) (.ref a) := by simp only [RD]
theorem RD.tup {ds : List D} {p : Addr} {vs : List V} (s : SqT K H p vs) (r : RDs K H N ds vs) : RD K H N (.tup ds) (.ref p) := by simp only [RD]; exact ⟨p, vs, rfl, s, r⟩
theorem RD.lst {ds : List D} {p : Addr} {vs : List V} (s : LstAt K H N p vs) (r : RDs K H N ds vs) : RD K H N (.lst ds) (.ref p) := by simp only [RD]; exact ⟨p, vs, rfl, s, r⟩
theorem RD.of_non {v : V} (h : RD K H N .non v) : v = .non := by simpa only [RD] using h
theorem RD.of_bl {b : Bool} {v : V} (h : RD K H N (.bl b) v) : v = .bl b := by simpa only [RD] using h
theorem RD.of_int {i : Int} {v : V} (h : RD K H N (.int i) v) : v = .int i := by simpa only [RD] using h
theorem RD.of_str {i : Str} {v : V} (h : RD K H N (.str i) v) : v = .str i := by simpa only [RD] using h
theorem RD.of_ty {i : String} {v : V} (h : RD K H N (.ty i) v) : v = .ty i := by simpa only [RD] using h
theorem RD.of_ref {i : Addr} {v : V} (h : RD K H N (.ref i) v) : v = .ref i := by simpa only [RD] using h
theorem RD.of_any {n : String} {v : V} (h : RD K H N (.any n) v) : ∃ a u, v = .ref a ∧ H a = some u ∧ knd u = n := by simpa only [RD] using h
theorem RD.of_tup {ds : List D} {v : V} (h : RD K H N (.tup ds) v) : ∃ p vs, v = .ref p ∧ SqT K H p vs ∧ RDs K H N ds vs := by simpa only [RD] using h
theorem RD.of_nt {zs : List Str} {v : V} (h : RD K H N (.nt zs) v) : ∃ p, v = .ref p ∧ NtAt K H p zs := by simpa only [RD] using h
theorem RD.of_lst {ds : List D} {v : V} (h : RD K H N (.lst ds) v) : ∃ p vs, v = .ref p ∧ LstAt K H N p vs ∧ RDs K H N ds vs := by simpa only [RD] using h
theorem RDs.nil : RDs K H N [] [] := by simp only [RDs]
theorem RDs.cons {d : D} {ds : List D} {v : V} {vs : List V} (h : RD K H N d v) (t : RDs K H N ds vs) : RDs K H N (d :: ds) (v :: vs) := by simp only [RDs]; exact ⟨v, vs, rfl, h, t⟩
theorem RDs.of_nil {vs : List V} (h : RDs K H N [] vs) : vs = [] := by simpa only [RDs] using h
theorem RDs.of_cons {d : D} {ds : List D} {vs : List V} (h : RDs K H N (d :: ds) vs) : ∃ v r, vs = v :: r ∧ RD K H N d v ∧ RDs K H N ds r := by simpa only [RDs] using h
theorem RDs.length : ∀ {ds : List D} {vs : List V}, RDs K H N ds vs → ds.length = vs.length
  | [], _, h => by rw [h.of_nil] <;> rfl
  | d :: ds, _, h => by
    obtain ⟨v, r, rfl, _, h2⟩ := h.of_cons
    rw [List.length_cons, List.length_cons, RDs.length h2]
theorem RDs.get : ∀ {ds : List D} {vs : List V} {i : Nat} {d : D}, RDs K H N ds vs → ds[i]? = some d → ∃ v, vs[i]? = some v ∧ RD K H N d v
  | [], _, _, _, _, e => by simp at e
  | d :: ds, _, 0, _, h, e => by
    obtain ⟨v, r, rfl, h1, _⟩ := h.of_cons
    simp at e; subst e
    exact ⟨v, rfl, h1⟩
  | d :: ds, _, i + 1, x, h, e => by
    obtain ⟨v, r, rfl, _, h2⟩ := h.of_cons
    obtain ⟨u, h3, h4⟩ := RDs.get (i := i) (d := x) h2 (by simpa using e)
    exact ⟨u, by simpa using h3, h4⟩
theorem RDs.append : ∀ {ds es : List D} {vs us : List V}, RDs K H N ds vs → RDs K H N es us → RDs K H N (ds ++ es) (vs ++ us)
  | [], _, _, _, h, t => by rw [h.of_nil]; exact t
  | d :: ds, _, _, _, h, t => by
    obtain ⟨v, r, rfl, h1, h2⟩ := h.of_cons
    exact RDs.cons h1 (RDs.append h2 t)
theorem RDs.take : ∀ {ds : List D} {vs : List V} (n : Nat), RDs K H N ds vs → RDs K H N (ds.take n) (vs.take n)
  | _, _, 0, _ => by simpa using RDs.nil
  | [], _, n + 1, h => by rw [h.of_nil]; exact RDs.nil
  | d :: ds, _, n + 1, h => by
    obtain ⟨v, r, rfl, h1, h2⟩ := h.of_cons
    exact RDs.cons h1 (RDs.take n h2)
theorem RDs.drop : ∀ {ds : List D} {vs : List V} (n : Nat), RDs K H N ds vs → RDs K H N (ds.drop n) (vs.drop n)
  | _, _, 0, h => h
  | [], _, n + 1, h => by rw [h.of_nil]; exact RDs.nil
  | d :: ds, _, n + 1, h => by
    obtain ⟨v, r, rfl, h1, h2⟩ := h.of_cons
    exact RDs.drop n h2
theorem RDs.reverse : ∀ {ds : List D} {vs : List V}, RDs K H N ds vs → RDs K H N ds.reverse vs.reverse
  | [], _, h => by rw [h.of_nil]; exact RDs.nil
  | d :: ds, _, h => by
    obtain ⟨v, r, rfl, h1, h2⟩ := h.of_cons
    rw [List.reverse_cons, List.reverse_cons]
    exact RDs.append (RDs.reverse h2) (RDs.cons h1 RDs.nil)
theorem RDs.set {d : D} {v : V} (h1 : RD K H N d v) : ∀ {ds : List D} {vs : List V} (i : Nat), RDs K H N ds vs → RDs K H N (ds.set i d) (vs.set i v)
  | [], _, _, h => by rw [h.of_nil]; exact RDs.nil
  | d' :: ds, _, 0, h => by
    obtain ⟨v, r, rfl, _, h2⟩ := h.of_cons
    exact RDs.cons h1 h2
  | d' :: ds, _, i + 1, h => by
    obtain ⟨v, r, rfl, h3, h2⟩ := h.of_cons
    exact RDs.cons h3 (RDs.set h1 i h2)
theorem RDs.dropLast {ds : List D} {vs : List V} (h : RDs K H N ds vs) : RDs K H N ds.dropLast vs.dropLast := by
  rw [List.dropLast_eq_take, List.dropLast_eq_take, h.length]; exact RDs.take _ h
theorem RDs.of_strs : ∀ {ns : List Str} {vs : List V}, RDs K H N (ns.map D.str) vs → vs = ns.map V.str
  | [], _, h => h.of_nil
  | n :: ns, _, h => by
    obtain ⟨v, r, rfl, h1, h2⟩ := RDs.of_cons h
    rw [h1.of_str, RDs.of_strs h2] <;> rfl
theorem RDs.of_bls : ∀ {ns : List Bool} {vs : List V}, RDs K H N (ns.map D.bl) vs → vs = ns.map V.bl
  | [], _, h => h.of_nil
  | n :: ns, _, h => by
    obtain ⟨v, r, rfl, h1, h2⟩ := RDs.of_cons h
    rw [h1.of_bl, RDs.of_bls h2] <;> rfl
theorem RDs.strs : ∀ (ns : List Str), RDs K H N (ns.map D.str) (ns.map V.str)
  | [] => RDs.nil
  | n :: ns => RDs.cons (RD.str n) (RDs.strs ns)
end

theorem RD.nt_tup {K : PySem.W.Frag} {H : Hp} {N : Ns} {zs : List Str} {v : V} (h : RD K H N (.nt zs) v) : RD K H N (.tup (zs.map .str)) v := by
  obtain ⟨p, rfl, s⟩ := h.of_nt
  exact RD.tup s.sq (RDs.strs zs)
/-! ### what stands at addresses -/
def RKV {κ : Type} (K : PySem.W.Frag) (H : Hp) (N : Ns) : List (κ × D) → List (κ × V) → Prop := Paired fun p q => p.1 = q.1 ∧ RD K H N p.2 q.2
theorem RKV.le {κ : Type} {K : PySem.W.Frag} {H H' : Hp} {N N' : Ns} (l : Kp H N H' N') {a : List (κ × D)} {b : List (κ × V)} (h : RKV K H N a b) : RKV K H' N' a b := Paired.mapP h fun _ _ z => ⟨z.1, z.2.le l⟩
/-- a dict by its entries: hash, key, value -/
def DxIs (h : Heap) (a : Addr) (kvs : List (Int × V × V)) : Prop := kvs.length ≤ sizeLine ∧ (a == sysModules) = false ∧ ∃ o es ep, h.get? a = some o ∧ o.ExactDict ∧ o.data = .dict es ep ∧ ep = kvs.length ∧ Paired (fun (p : Int × V × V) (e : DictEntry) => e.hash = p.1 ∧ RelV p.2.1 e.key ∧ RelV p.2.2 e.val) kvs es.toList
def DxO (a : Addr) (kvs : List (Int × V × V)) : HO := .ext fun h => DxIs h a kvs
def RXV (K : PySem.W.Frag) (H : Hp) (N : Ns) (hs : D → Int) : List (D × D) → List (Int × V × V) → Prop := Paired fun p q => q.1 = hs p.1 ∧ RD K H N p.1 q.2.1 ∧ RD K H N p.2 q.2.2
theorem RXV.le {K : PySem.W.Frag} {H H' : Hp} {N N' : Ns} {hs : D → Int} (l : Kp H N H' N') {a : List (D × D)} {b : List (Int × V × V)} (h : RXV K H N hs a b) : RXV K H' N' hs a b := Paired.mapP h fun _ _ z => ⟨z.1, z.2.1.le l, z.2.2.le l⟩
/-- the dict of an exception's own fields -/
def XdOf (K : PySem.W.Frag) (H : Hp) (N : Ns) : Option Addr → List (Str × D) → Prop
  | none, fs => fs = []
  | some p, fs => fs ≠ [] ∧ ∃ fs', H p = some (.xd fs') ∧ RKV K H N fs fs'
theorem XdOf.le {K : PySem.W.Frag} {H H' : Hp} {N N' : Ns} (l : Kp H N H' N') {d : Option Addr} {fs : List (Str × D)} (h : XdOf K H N d fs) : XdOf K H' N' d fs := by
  cases d with
  | none => exact h
  | some p => obtain ⟨ne, fs', e, r⟩ := h; exact ⟨ne, fs', l.kle.kxd p fs' e, r.le l⟩
/-- an exception at rest -/
def ExK (cls : Value) (d : Option Addr) (a : Addr) : HO := .ext fun h => ∃ (oe : Obj) (vs : Array Value), h.get? a = some oe ∧ oe.cls = cls ∧ oe.dict = d ∧ oe.data = .fields vs
theorem exK_ok {P : Program} {w : World} {H : Hp} {h : Heap} {a : Addr} {cls : Value} {d : Option Addr} {oe : Obj} {vs : Array Value} (e : h.get? a = some oe) (h1 : oe.cls = cls) (h2 : oe.dict = d) (h3 : oe.data = .fields vs) : ObjOk P w H h a (ExK cls d a) :=
  ⟨⟨oe, vs, e, h1, h2, h3⟩, ⟨oe, e⟩, fun _ _ ⟨o, v, q, r⟩ k => ⟨o, v, k o q, r⟩⟩
def RO (K : PySem.W.Frag) (H : Hp) (N : Ns) (a : Addr) : GO → Prop
  | .lst ds => ∃ vs, H a = some (.lst vs) ∧ RDs K H N ds vs
  | .dK kvs => ∃ kvs', H a = some (.dK kvs') ∧ RKV K H N kvs kvs'
  | .dT kvs => ∃ kvs', H a = some (.dT kvs') ∧ RKV K H N kvs kvs'
  | .ins C dx fs => ∃ fs', H a = some (.ins C dx fs') ∧ RKV K H N fs fs'
  | .dX ok hs kvs => ∃ kvs', H a = some (DxO a kvs') ∧ RXV K H N hs kvs kvs' ∧ ok kvs
  | .ex cls fs => ∃ d, H a = some (ExK cls d a) ∧ XdOf K H N d fs
  | .tab q => LamX.TabS H a q
  | .fK ob us kvs => H a = some (.frz ob (.dK us)) ∧ RKV K H N kvs us
  | .tn ds => ∃ o vs, H a = some (.frz o (.tup vs)) ∧ o.cls = .type "tuple" ∧ o.dict = none ∧ RDs K H N ds vs
def RelG (K : PySem.W.Frag) (H : Hp) (N : Ns) (G : Gp) : Prop := ∀ a o, G a = some o → N a ∧ RO K H N a o
theorem RO.here {K : PySem.W.Frag} {H : Hp} {N : Ns} {a : Addr} {o : GO} (h : RO K H N a o) : ∃ u, H a = some u ∧ True := by
  cases o with
  | lst ds => obtain ⟨_, h, _⟩ := h; exact ⟨_, h, trivial⟩
  | dK ds => obtain ⟨_, h, _⟩ := h; exact ⟨_, h, trivial⟩
  | dT ds => obtain ⟨_, h, _⟩ := h; exact ⟨_, h, trivial⟩
  | ins C dx ds => obtain ⟨_, h, _⟩ := h; exact ⟨_, h, trivial⟩
  | dX ok hs kvs => obtain ⟨_, h, _⟩ := h; exact ⟨_, h, trivial⟩
  | ex cls fs => obtain ⟨_, h, _⟩ := h; exact ⟨_, h, trivial⟩
  | tab q => obtain ⟨_, h, _⟩ := h; exact ⟨_, h, trivial⟩
  | fK ob us kvs => exact ⟨_, h.1, trivial⟩
  | tn ds => obtain ⟨_, _, h, _⟩ := h; exact ⟨_, h, trivial⟩
theorem RO.le {K : PySem.W.Frag} {H H' : Hp} {N N' : Ns} {a : Addr} {o : GO} (l : Kp H N H' N') (e : H' a = H a) (h : RO K H N a o) : RO K H' N' a o := by
  cases o with
  | lst ds => obtain ⟨vs, h, r⟩ := h; exact ⟨vs, e.trans h, r.le l⟩
  | dK ds => obtain ⟨vs, h, r⟩ := h; exact ⟨vs, e.trans h, r.le l⟩
  | dT ds => obtain ⟨vs, h, r⟩ := h; exact ⟨vs, e.trans h, r.le l⟩
  | ins C dx ds => obtain ⟨vs, h, r⟩ := h; exact ⟨vs, e.trans h, r.le l⟩
  | dX ok hs kvs => obtain ⟨vs, h, r, z⟩ := h; exact ⟨vs, e.trans h, r.le l, z⟩
  | ex cls fs => obtain ⟨d, h, r⟩ := h; exact ⟨d, e.trans h, r.le l⟩
  | tab q =>
    obtain ⟨ps, h, t, r⟩ := h
    exact ⟨ps, e.trans h, t, fun pos cv hc => by obtain ⟨c, e1, e2⟩ := r pos cv hc; exact ⟨c, e1, l.kle.kco c q e2⟩⟩
  | fK ob us kvs => exact ⟨e.trans h.1, h.2.le l⟩
  | tn ds => obtain ⟨o, vs, h, h1, h2, r⟩ := h; exact ⟨o, vs, e.trans h, h1, h2, r.le l⟩
theorem RelG.free {K : PySem.W.Frag} {H : Hp} {N : Ns} {G : Gp} (r : RelG K H N G) {p : Addr} (h : H p = none) : G p = none := by
  cases e : G p with
  | none => rfl
  | some o =>
    obtain ⟨u, h', _⟩ := (r p o e).2.here
    rw [h] at h'; cases h'
/-- a step -/
structure Stp (K : PySem.W.Frag) (H : Hp) (N : Ns) (G : Gp) (H' : Hp) (N' : Ns) (G' : Gp) : Prop where
  kp : Kp H N H' N'
  fr : ∀ p u, H p = some u → G p = none → H' p = some u ∧ G' p = none ∧ (N p → N' p)
  rel : RelG K H' N' G'
theorem Stp.refl {K : PySem.W.Frag} {H : Hp} {N : Ns} {G : Gp} (r : RelG K H N G) : Stp K H N G H N G := ⟨Kp.refl H N, fun _ _ h n => ⟨h, n, id⟩, r⟩
theorem Stp.trans {K : PySem.W.Frag} {H H1 H2 : Hp} {N N1 N2 : Ns} {G G1 G2 : Gp} (a : Stp K H N G H1 N1 G1) (b : Stp K H1 N1 G1 H2 N2 G2) : Stp K H N G H2 N2 G2 :=
  ⟨a.kp.trans b.kp, fun p u h n => by
    obtain ⟨h1, n1, m1⟩ := a.fr p u h n
    obtain ⟨h2, n2, m2⟩ := b.fr p u h1 n1
    exact ⟨h2, n2, fun z => m2 (m1 z)⟩, b.rel⟩
def Sub (G G' : Gp) : Prop := ∀ a o, G a = some o → G' a = some o
theorem Sub.refl (G : Gp) : Sub G G := fun _ _ h => h
theorem Sub.trans {G G1 G2 : Gp} (a : Sub G G1) (b : Sub G1 G2) : Sub G G2 := fun p o h => b p o (a p o h)
theorem Sub.new {G : Gp} {p : Addr} {o : GO} (h : G p = none) : Sub G (gup G p o) := fun a u e => by rw [gup_ne (gne e h)]; exact e
theorem Sub.news {G G' : Gp} {p : Addr} {o : GO} (s : Sub G G') (h : G' p = none) : Sub G (gup G' p o) := s.trans (Sub.new h)
theorem Sub.nn {G G' : Gp} (s : Sub G G') {p : Addr} (h : G' p = none) : G p = none := by
  cases e : G p with
  | none => rfl
  | some o => rw [s p o e] at h; cases h
theorem Sub.del {G : Gp} {p : Addr} : Sub (gdel G p) G := fun a o e => by
  unfold gdel at e
  split at e
  · cases e
  · exact e
theorem RelG.sub {K : PySem.W.Frag} {H : Hp} {N : Ns} {G G' : Gp} (r : RelG K H N G') (s : Sub G G') : Stp K H N G' H N G := ⟨Kp.refl H N, fun p u h n => ⟨h, s.nn n, id⟩, fun a o e => r a o (s a o e)⟩
theorem Kp.new {H : Hp} {N : Ns} {p : Addr} {u : HO} (h : H p = none) : Kp H N (upd H p u) (nadd N p) :=
  ⟨KLe.fresh h, fun q x e n => ⟨by rw [upd_ne (ne_of_none e h)]; exact e, fun z => z.elim (ne_of_none e h) n⟩⟩
theorem Kp.new0 {H : Hp} {N : Ns} {p : Addr} {u : HO} (h : H p = none) : Kp H N (upd H p u) N :=
  ⟨KLe.fresh h, fun q x e n => ⟨by rw [upd_ne (ne_of_none e h)]; exact e, n⟩⟩
theorem Kp.newV {H : Hp} {N : Ns} {p : Addr} {u : HO} (h : H p = none) : Kp H N (upd H p u) (ndel N p) :=
  ⟨KLe.fresh h, fun q x e n => ⟨by rw [upd_ne (ne_of_none e h)]; exact e, fun z => n z.2⟩⟩
/-- a new object that is known -/
theorem Stp.new {K : PySem.W.Frag} {H : Hp} {N : Ns} {G : Gp} {p : Addr} {u : HO} {o : GO} (r : RelG K H N G) (h : H p = none) (ho : RO K (upd H p u) (nadd N p) p o) : Stp K H N G (upd H p u) (nadd N p) (gup G p o) := by
  refine ⟨Kp.new h, fun q x e n => ⟨by rw [upd_ne (ne_of_none e h)]; exact e, by rw [gup_ne (ne_of_none e h)]; exact n, .inr⟩, fun a o' e => ?_⟩
  by_cases z : a = p
  · subst z; rw [gup_same] at e; cases e; exact ⟨.inl rfl, ho⟩
  · rw [gup_ne z] at e
    exact ⟨.inr (r a o' e).1, (r a o' e).2.le (Kp.new h) (upd_ne z)⟩
/-- a new object that is not known -/
theorem Stp.new0 {K : PySem.W.Frag} {H : Hp} {N : Ns} {G : Gp} {p : Addr} {u : HO} (r : RelG K H N G) (h : H p = none) : Stp K H N G (upd H p u) N G := by
  refine ⟨Kp.new0 h, fun q x e n => ⟨by rw [upd_ne (ne_of_none e h)]; exact e, n, id⟩, fun a o' e => ?_⟩
  obtain ⟨x, hx, _⟩ := (r a o' e).2.here
  exact ⟨(r a o' e).1, (r a o' e).2.le (Kp.new0 h) (upd_ne (ne_of_none hx h))⟩
/-- a new object that nobody changes -/
theorem Stp.newV {K : PySem.W.Frag} {H : Hp} {N : Ns} {G : Gp} {p : Addr} {u : HO} (r : RelG K H N G) (h : H p = none) : Stp K H N G (upd H p u) (ndel N p) G := by
  refine ⟨Kp.newV h, fun q x e n => ⟨by rw [upd_ne (ne_of_none e h)]; exact e, n, fun z => ⟨ne_of_none e h, z⟩⟩, fun a o' e => ?_⟩
  obtain ⟨x, hx, _⟩ := (r a o' e).2.here
  exact ⟨⟨ne_of_none hx h, (r a o' e).1⟩, (r a o' e).2.le (Kp.newV h) (upd_ne (ne_of_none hx h))⟩
theorem Kp.writeC {H : Hp} {N : Ns} {p : Addr} {u u0 : HO} (hN : N p) (h : H p = some u0) (m : Chg p u0) (k : knd u = knd u0) : Kp H N (upd H p u) N :=
  ⟨KLe.writeC h m k, fun q x e n => ⟨by rw [upd_ne (fun z => n (by rw [z]; exact hN))]; exact e, n⟩⟩
/-- a known object is changed -/
theorem Stp.writeC {K : PySem.W.Frag} {H : Hp} {N : Ns} {G : Gp} {p : Addr} {u : HO} {o o0 : GO} {u0 : HO} (r : RelG K H N G) (hG : G p = some o0) (h : H p = some u0) (m : Chg p u0) (k : knd u = knd u0) (ho : RO K (upd H p u) N p o) :
    Stp K H N G (upd H p u) N (gup G p o) := by
  have hN := (r p o0 hG).1
  refine ⟨Kp.writeC hN h m k, fun q x e n => ?_, fun a o' e => ?_⟩
  · have ne : q ≠ p := fun z => by subst z; rw [hG] at n; cases n
    exact ⟨by rw [upd_ne ne]; exact e, by rw [gup_ne ne]; exact n, id⟩
  · by_cases z : a = p
    · subst z; rw [gup_same] at e; cases e; exact ⟨hN, ho⟩
    · rw [gup_ne z] at e
      exact ⟨(r a o' e).1, (r a o' e).2.le (Kp.writeC hN h m k) (upd_ne z)⟩
/-- a young object that is not known is changed -/
theorem Stp.pokeC {K : PySem.W.Frag} {H0 H : Hp} {N0 N : Ns} {G0 G : Gp} {p : Addr} {u u0 : HO} (s : Stp K H0 N0 G0 H N G) (h0 : H0 p = none) (h : H p = some u0) (n : G p = none) (hN : N p) (m : Chg p u0) (k : knd u = knd u0) :
    Stp K H0 N0 G0 (upd H p u) N G := by
  have kw := Kp.writeC hN h m k
  refine ⟨s.kp.trans kw, fun q x e nq => ?_, fun a o' e => ?_⟩
  · obtain ⟨h1, n1, m1⟩ := s.fr q x e nq
    exact ⟨by rw [upd_ne (ne_of_none e h0)]; exact h1, n1, m1⟩
  · have ne : a ≠ p := fun z => by subst z; rw [n] at e; cases e
    exact ⟨(s.rel a o' e).1, (s.rel a o' e).2.le kw (upd_ne ne)⟩
theorem Kp.write {H : Hp} {N : Ns} {p : Addr} {u u0 : HO} (hN : N p) (h : H p = some u0) (m : mutH u0 = true) (k : knd u = knd u0) : Kp H N (upd H p u) N := Kp.writeC hN h (.of m) k
theorem Stp.write {K : PySem.W.Frag} {H : Hp} {N : Ns} {G : Gp} {p : Addr} {u : HO} {o o0 : GO} {u0 : HO} (r : RelG K H N G) (hG : G p = some o0) (h : H p = some u0) (m : mutH u0 = true) (k : knd u = knd u0) (ho : RO K (upd H p u) N p o) :
    Stp K H N G (upd H p u) N (gup G p o) := Stp.writeC r hG h (.of m) k ho
theorem Stp.poke {K : PySem.W.Frag} {H0 H : Hp} {N0 N : Ns} {G0 G : Gp} {p : Addr} {u u0 : HO} (s : Stp K H0 N0 G0 H N G) (h0 : H0 p = none) (h : H p = some u0) (n : G p = none) (hN : N p) (m : mutH u0 = true) (k : knd u = knd u0) :
    Stp K H0 N0 G0 (upd H p u) N G := Stp.pokeC s h0 h n hN (.of m) k
/-- a young object gets known -/
theorem Stp.know {K : PySem.W.Frag} {H0 H : Hp} {N0 N : Ns} {G0 G : Gp} {p : Addr} {o : GO} (s : Stp K H0 N0 G0 H N G) (h0 : H0 p = none) (hN : N p) (ho : RO K H N p o) : Stp K H0 N0 G0 H N (gup G p o) := by
  refine ⟨s.kp, fun q x e nq => ?_, fun a o' e => ?_⟩
  · obtain ⟨h1, n1, m1⟩ := s.fr q x e nq
    exact ⟨h1, by rw [gup_ne (ne_of_none e h0)]; exact n1, m1⟩
  · by_cases z : a = p
    · subst z; rw [gup_same] at e; cases e; exact ⟨hN, ho⟩
    · rw [gup_ne z] at e
      exact s.rel a o' e
/-- an object that G doesn't know is from now on never changed: it was young, or G knew it -/
theorem Kp.calm {H : Hp} {N : Ns} {p : Addr} : Kp H N H (ndel N p) := ⟨KLe.refl H, fun q x e n => ⟨e, fun z => n z.2⟩⟩
theorem Stp.calm {K : PySem.W.Frag} {H0 H : Hp} {N0 N : Ns} {G0 G : Gp} {p : Addr} (s : Stp K H0 N0 G0 H N G) (h0 : H0 p = none ∨ G0 p ≠ none) (n : G p = none) : Stp K H0 N0 G0 H (ndel N p) G := by
  refine ⟨s.kp.trans Kp.calm, fun q x e nq => ?_, fun a o' e => ?_⟩
  · obtain ⟨h1, n1, m1⟩ := s.fr q x e nq
    refine ⟨h1, n1, fun z => ⟨fun w => ?_, m1 z⟩⟩
    subst w
    rcases h0 with h0 | h0
    · rw [h0] at e; cases e
    · exact h0 nq
  · have ne : a ≠ p := fun z => by subst z; rw [n] at e; cases e
    exact ⟨⟨ne, (s.rel a o' e).1⟩, (s.rel a o' e).2.le Kp.calm rfl⟩

/-! ### slots -/
abbrev Sd := List (Option D)
def RSt (K : PySem.W.Frag) (H : Hp) (N : Ns) (σ : Sd) (τ : L2.St) : Prop := σ.length = τ.length ∧ ∀ (i : Nat) (d : D), σ[i]? = some (some d) → ∃ v, τ[i]? = some (some v) ∧ RD K H N d v
theorem RSt.le {K : PySem.W.Frag} {H H' : Hp} {N N' : Ns} {σ : Sd} {τ : L2.St} (l : Kp H N H' N') (h : RSt K H N σ τ) : RSt K H' N' σ τ := ⟨h.1, fun i d e => by obtain ⟨v, h1, h2⟩ := h.2 i d e; exact ⟨v, h1, h2.le l⟩⟩
theorem RSt.set {K : PySem.W.Frag} {H : Hp} {N : Ns} {σ : Sd} {τ : L2.St} {d : D} {v : V} (h : RSt K H N σ τ) (r : RD K H N d v) (i : Nat) : RSt K H N (σ.set i (some d)) (τ.set i (some v)) := by
  refine ⟨by rw [List.length_set, List.length_set]; exact h.1, fun j x e => ?_⟩
  by_cases hj : i = j
  · subst hj
    rw [List.getElem?_set] at e ⊢
    simp only [if_true] at e ⊢
    rw [h.1] at e
    split at e
    · rename_i hlt
      cases e
      rw [if_pos hlt]
      exact ⟨v, rfl, r⟩
    · cases e
  · rw [List.getElem?_set_ne hj] at e ⊢
    exact h.2 j x e

/-! ### transformers by data -/
abbrev DK := D → Gp → Prop
abbrev DE := Sd → Gp → DK → Prop
abbrev DT := Sd → Gp → (Bool → Gp → Prop) → Prop
abbrev DA := Sd → Gp → (List D → Gp → Prop) → Prop
structure DEnds where
  nx : Sd → Gp → Prop
  rt : DK
  bk : Sd → Gp → Prop := fun _ _ => False
  ct : Sd → Gp → Prop := fun _ _ => False
abbrev DS := DEnds → Sd → Gp → Prop
abbrev DG := D → Sd → Gp → (Sd → Gp → Prop) → Prop
abbrev DR2 := D → D → Gp → DK → Prop
abbrev DR1 := D → Gp → DK → Prop
abbrev DRn := List D → Gp → DK → Prop
/-- a continuation by values holds where the one by data does -/
def UpQ (K : PySem.W.Frag) (H : Hp) (N : Ns) (G : Gp) (R : DK) (Q : VK) : Prop := ∀ d G' N' v H', R d G' → Stp K H N G H' N' G' → RD K H' N' d v → Q v H'
def up (K : PySem.W.Frag) (t : DE) : TE := fun τ H Q => ∃ σ G N R, RSt K H N σ τ ∧ RelG K H N G ∧ t σ G R ∧ UpQ K H N G R Q
def upT (K : PySem.W.Frag) (t : DT) : TT := fun τ H Q => ∃ σ G N R, RSt K H N σ τ ∧ RelG K H N G ∧ t σ G R ∧ ∀ b G' N' H', R b G' → Stp K H N G H' N' G' → Q b H'
def upA (K : PySem.W.Frag) (t : DA) : TA := fun τ H Q => ∃ σ G N R, RSt K H N σ τ ∧ RelG K H N G ∧ t σ G R ∧ ∀ ds G' N' vs H', R ds G' → Stp K H N G H' N' G' → RDs K H' N' ds vs → Q vs H'
structure UpE (K : PySem.W.Frag) (H : Hp) (N : Ns) (G : Gp) (E : DEnds) (D : Ends) : Prop where
  nx : ∀ σ' G' N' τ' H', E.nx σ' G' → Stp K H N G H' N' G' → RSt K H' N' σ' τ' → D.nx τ' H'
  rt : UpQ K H N G E.rt D.rt
  bk : ∀ σ' G' N' τ' H', E.bk σ' G' → Stp K H N G H' N' G' → RSt K H' N' σ' τ' → D.bk τ' H'
  ct : ∀ σ' G' N' τ' H', E.ct σ' G' → Stp K H N G H' N' G' → RSt K H' N' σ' τ' → D.ct τ' H'
def upS (K : PySem.W.Frag) (t : DS) : TS := fun D τ H => ∃ σ G N E, RSt K H N σ τ ∧ RelG K H N G ∧ t E σ G ∧ UpE K H N G E D
def upG (K : PySem.W.Frag) (g : DG) : TG := fun v τ H Q => ∃ d σ G N R, RD K H N d v ∧ RSt K H N σ τ ∧ RelG K H N G ∧ g d σ G R ∧ ∀ σ' G' N' τ' H', R σ' G' → Stp K H N G H' N' G' → RSt K H' N' σ' τ' → Q τ' H'
def upR2 (K : PySem.W.Frag) (r : DR2) : R2 := fun x y H Q => ∃ c d G N R, RD K H N c x ∧ RD K H N d y ∧ RelG K H N G ∧ r c d G R ∧ UpQ K H N G R Q
def upR1 (K : PySem.W.Frag) (r : DR1) : V → Hp → VK → Prop := fun x H Q => ∃ c G N R, RD K H N c x ∧ RelG K H N G ∧ r c G R ∧ UpQ K H N G R Q
def upRn (K : PySem.W.Frag) (r : DRn) : List V → Hp → VK → Prop := fun xs H Q => ∃ cs G N R, RDs K H N cs xs ∧ RelG K H N G ∧ r cs G R ∧ UpQ K H N G R Q
def upM (K : PySem.W.Frag) (r : D → List D → Gp → DK → Prop) : V → List V → Hp → VK → Prop := fun x xs H Q => ∃ c cs G N R, RD K H N c x ∧ RDs K H N cs xs ∧ RelG K H N G ∧ r c cs G R ∧ UpQ K H N G R Q
theorem UpQ.le {K : PySem.W.Frag} {H H1 : Hp} {N N1 : Ns} {G G1 : Gp} {R : DK} {Q : VK} (q : UpQ K H N G R Q) (s : Stp K H N G H1 N1 G1) : UpQ K H1 N1 G1 R Q := fun d G' N' v H' r s' rd => q d G' N' v H' r (s.trans s') rd
theorem UpQ.at {K : PySem.W.Frag} {H : Hp} {N : Ns} {G : Gp} {R : DK} {Q : VK} (q : UpQ K H N G R Q) (r : RelG K H N G) {d : D} {v : V} (h : R d G) (rd : RD K H N d v) : Q v H := q d G N v H h (Stp.refl r) rd

def QE (X : Cx) (e : Expr) (t : DE) : Prop := PE X e (up X.K t)
def QT (X : Cx) (e : Expr) (t : DT) : Prop := PT X e (upT X.K t)
def QW (X : Cx) (e : Expr) (t : DT) : Prop := PW X e (upT X.K t)
def QA (X : Cx) (es : List Expr) (t : DA) : Prop := PA X es (upA X.K t)
def QS (X : Cx) (st : Stmt) (t : DS) : Prop := PS X st (upS X.K t)
def QSs (X : Cx) (st : List Stmt) (t : DS) : Prop := PSs X st (upS X.K t)
def QG (X : Cx) (tg : Expr) (g : DG) : Prop := PG X tg (upG X.K g)
def OpD (X : Cx) (f : Value → Value → Sem Value) (r : DR2) : Prop := OpR X f (upR2 X.K r)
def UnD (X : Cx) (f : Value → Sem Value) (r : DR1) : Prop := UnR X f (upR1 X.K r)
def CallD (X : Cx) (f : Value) (r : DRn) : Prop := CallR X f (upRn X.K r)
def IxD (X : Cx) (r : DR2) : Prop := IxR X (upR2 X.K r)

theorem pe_mono {X : Cx} {e : Expr} {t t' : TE} (h : PE X e t) (i : ∀ τ H Q, t' τ H Q → t τ H Q) : PE X e t' := ⟨fun pins s σ H Q I q => h.run pins s σ H Q I (i σ H Q q)⟩
theorem pt_mono {X : Cx} {e : Expr} {t t' : TT} (h : PT X e t) (i : ∀ τ H Q, t' τ H Q → t τ H Q) : PT X e t' := ⟨fun pins s σ H Q I q => h.run pins s σ H Q I (i σ H Q q)⟩
theorem pw_mono {X : Cx} {e : Expr} {t t' : TT} (h : PW X e t) (i : ∀ τ H Q, t' τ H Q → t τ H Q) : PW X e t' := ⟨fun wh pins s σ H Q I q => h.run wh pins s σ H Q I (i σ H Q q)⟩
theorem pa_mono {X : Cx} {e : List Expr} {t t' : TA} (h : PA X e t) (i : ∀ τ H Q, t' τ H Q → t τ H Q) : PA X e t' := ⟨fun pos pins s σ H Q I q => h.run pos pins s σ H Q I (i σ H Q q)⟩
theorem ps_mono {X : Cx} {e : Stmt} {t t' : TS} (h : PS X e t) (i : ∀ D τ H, t' D τ H → t D τ H) : PS X e t' := ⟨fun pins s σ H D I q => h.run pins s σ H D I (i D σ H q)⟩
theorem pss_mono {X : Cx} {e : List Stmt} {t t' : TS} (h : PSs X e t) (i : ∀ D τ H, t' D τ H → t D τ H) : PSs X e t' := ⟨fun pins s σ H D I q => h.run pins s σ H D I (i D σ H q)⟩
theorem pg_mono {X : Cx} {e : Expr} {t t' : TG} (h : PG X e t) (i : ∀ v τ H Q, t' v τ H Q → t v τ H Q) : PG X e t' := ⟨fun pins s σ H v u Q I r q => h.run pins s σ H v u Q I r (i v σ H Q q)⟩
theorem opr_mono {X : Cx} {f : Value → Value → Sem Value} {r r' : R2} (h : OpR X f r) (i : ∀ x y H Q, r' x y H Q → r x y H Q) : OpR X f r' := fun pins s σ H x y v u Q I rx ry q => h pins s σ H x y v u Q I rx ry (i x y H Q q)
theorem unr_mono {X : Cx} {f : Value → Sem Value} {r r' : V → Hp → VK → Prop} (h : UnR X f r) (i : ∀ x H Q, r' x H Q → r x H Q) : UnR X f r' := fun pins s σ H x v Q I rx q => h pins s σ H x v Q I rx (i x H Q q)
theorem callr_mono {X : Cx} {f : Value} {r r' : List V → Hp → VK → Prop} (h : CallR X f r) (i : ∀ x H Q, r' x H Q → r x H Q) : CallR X f r' := fun pins s σ H xs us Q I rx q => h pins s σ H xs us Q I rx (i xs H Q q)
theorem ixr_mono {X : Cx} {r r' : R2} (h : IxR X r) (i : ∀ x y H Q, r' x y H Q → r x y H Q) : IxR X r' := fun va sl pins s σ H x y v u Q I rx ry q => h va sl pins s σ H x y v u Q I rx ry (i x y H Q q)

/-! ### names and constants -/
section
variable {X : Cx} {e a b c : Expr} {pos : Pos} {t ta tb tc : DE}
def dVar (i : Nat) : DE := fun σ G R => match σ[i]? with | some (some d) => R d G | _ => False
def dC (d : D) : DE := fun _ G R => R d G
theorem qv (i : Nat) {x : Str} {pos : Pos} (hN : X.N[i]? = some x := by rfl) (hv : Vis X.env.scope x := by first | exact Or.inl rfl | exact Or.inr (Or.inl rfl) | exact Or.inr (Or.inr rfl)) (hd : (x == ("__debug__" : Str)) = false := by decide)
    (hcd : (x == ("__classdict__" : Str)) = false := by decide) : QE X (.Name x pos) (dVar i) := by
  refine pe_mono (pe_var hN hv hd hcd) fun τ H Q h => ?_
  obtain ⟨σ, G, N, R, hs, hg, ht, q⟩ := h
  unfold dVar at ht
  split at ht
  · rename_i d e
    obtain ⟨v, h1, h2⟩ := hs.2 i d e
    exact ⟨v, h1, q.at hg ht h2⟩
  · exact ht.elim
theorem up_c {K : PySem.W.Frag} {d : D} {v : V} (h : ∀ H N, RD K H N d v) {τ : L2.St} {H : Hp} {Q : VK} (u : up K (dC d) τ H Q) : Q v H := by
  obtain ⟨σ, G, N, R, hs, hg, ht, q⟩ := u
  exact q.at hg ht (h H N)
theorem qe_int {i j pos} : QE X (.Constant (.int i) j pos) (dC (.int i)) := pe_mono pe_int fun _ _ _ h => up_c (fun _ _ => RD.int i) h
theorem qe_bl {i j pos} : QE X (.Constant (.bool i) j pos) (dC (.bl i)) := pe_mono pe_bl fun _ _ _ h => up_c (fun _ _ => RD.bl i) h
theorem qe_non {j pos} : QE X (.Constant .none j pos) (dC .non) := pe_mono pe_non fun _ _ _ h => up_c (fun _ _ => RD.non) h
theorem qe_str {i j pos} : QE X (.Constant (.str i) j pos) (dC (.str i)) := pe_mono pe_str fun _ _ _ h => up_c (fun _ _ => RD.str i) h
/-- a module's constant -/
theorem qe_glob {x : Str} {d : D} {v : V} {u : Value} {pos : Pos} (hg : Gl X x) (hm : X.mg x = some u) (r : RelV v u) (h : ∀ H N, RD X.K H N d v) (hd : (x == ("__debug__" : Str)) = false := by decide) : QE X (.Name x pos) (dC d) :=
  pe_mono (pe_glob hg hm r hd) fun _ _ _ z => up_c h z

/-! ### operators -/
def dOp (r : DR2) (ta tb : DE) : DE := fun σ G R => ta σ G fun x G1 => tb σ G1 fun y G2 => r x y G2 R
def dUn (r : DR1) (ta : DE) : DE := fun σ G R => ta σ G fun x G1 => r x G1 R
theorem up_op {K : PySem.W.Frag} {r : DR2} {τ : L2.St} {H : Hp} {Q : VK} (u : up K (dOp r ta tb) τ H Q) : tOp (upR2 K r) (up K ta) (up K tb) τ H Q := by
  obtain ⟨σ, G, N, R, hs, hg, ht, q⟩ := u
  refine ⟨σ, G, N, _, hs, hg, ht, fun x G1 N1 v1 H1 h1 s1 r1 => ?_⟩
  refine ⟨σ, G1, N1, _, hs.le s1.kp, s1.rel, h1, fun y G2 N2 v2 H2 h2 s2 r2 => ?_⟩
  exact ⟨x, y, G2, N2, R, r1.le s2.kp, r2, s2.rel, h2, q.le (s1.trans s2)⟩
theorem qe_op {op : Operator} {r : DR2} (ho : OpD X (binaryOp op) r) (ha : QE X a ta) (hb : QE X b tb) : QE X (.BinOp a op b pos) (dOp r ta tb) := pe_mono (pe_op ho ha hb) fun _ _ _ h => up_op h
theorem qe_cmp {op : CmpOp} {r : DR2} (ho : OpD X (compareOp op) r) (ha : QE X a ta) (hb : QE X b tb) (hm : behindInMarks op b = false) : QE X (.Compare a [op] [b] pos) (dOp r ta tb) := pe_mono (pe_cmpR ho ha hb hm) fun _ _ _ h => up_op h
theorem qe_ix {r : DR2} (ho : IxD X r) (ha : QE X a ta) (hb : QE X b tb) (hs : PlainIx b) : QE X (.Subscript a b pos) (dOp r ta tb) := pe_mono (pe_ix ho ha hb hs) fun _ _ _ h => up_op h
theorem qe_un {op : UnaryOp} {r : DR1} (ho : UnD X (unaryOp op) r) (ha : QE X a ta) : QE X (.UnaryOp op a pos) (dUn r ta) := by
  refine pe_mono (pe_un ho ha) fun τ H Q h => ?_
  obtain ⟨σ, G, N, R, hs, hg, ht, q⟩ := h
  refine ⟨σ, G, N, _, hs, hg, ht, fun x G1 N1 v1 H1 h1 s1 r1 => ?_⟩
  exact ⟨x, G1, N1, R, r1, s1.rel, h1, q.le s1⟩
/-- a op1 b op2 c -/
def dChain (r r' : DR2) (ta tb tc : DE) : DE := fun σ G R => ta σ G fun x G1 => tb σ G1 fun y G2 => r x y G2 fun z G3 => match z with | .bl true => tc σ G3 fun w G4 => r' y w G4 R | .bl false => R (.bl false) G3 | _ => False
theorem qe_chain {op op' : CmpOp} {r r' : DR2} (ho : OpD X (compareOp op) r) (ho' : OpD X (compareOp op') r') (ha : QE X a ta) (hb : QE X b tb) (hc : QE X c tc)
    (hm : lastMarks [op, op'] [b, c] = false := by with_unfolding_all rfl) : QE X (.Compare a [op, op'] [b, c] pos) (dChain r r' ta tb tc) := by
  refine pe_mono (pe_chain ho ho' ha hb hc hm) fun τ H Q h => ?_
  obtain ⟨σ, G, N, R, hs, hg, ht, q⟩ := h
  refine ⟨σ, G, N, _, hs, hg, ht, fun x G1 N1 v1 H1 h1 s1 r1 => ?_⟩
  refine ⟨σ, G1, N1, _, hs.le s1.kp, s1.rel, h1, fun y G2 N2 v2 H2 h2 s2 r2 => ?_⟩
  refine ⟨x, y, G2, N2, _, r1.le s2.kp, r2, s2.rel, h2, fun z G3 N3 v3 H3 h3 s3 r3 => ?_⟩
  have s13 := (s1.trans s2).trans s3
  split at h3
  · refine ⟨true, r3.of_bl, ?_⟩
    rw [if_pos rfl]
    refine ⟨σ, G3, N3, _, hs.le s13.kp, s3.rel, h3, fun w G4 N4 v4 H4 h4 s4 r4 => ?_⟩
    exact ⟨y, w, G4, N4, R, (r2.le s3.kp).le s4.kp, r4, s4.rel, h4, q.le (s13.trans s4)⟩
  · refine ⟨false, r3.of_bl, ?_⟩
    rw [if_neg Bool.false_ne_true]
    exact (q.le s13).at s3.rel h3 (RD.bl _)
  · exact h3.elim
/-! ### tests -/
/-- a value that is a bool, as a test -/
def dB (t : DE) : DT := fun σ G R => t σ G fun x G1 => match x with | .bl b => R b G1 | _ => False
theorem upT_B {K : PySem.W.Frag} {τ : L2.St} {H : Hp} {Q : Bool → Hp → Prop} (u : upT K (dB t) τ H Q) : tB (up K t) τ H Q := by
  obtain ⟨σ, G, N, R, hs, hg, ht, q⟩ := u
  refine ⟨σ, G, N, _, hs, hg, ht, fun x G1 N1 v1 H1 h1 s1 r1 => ?_⟩
  split at h1
  · exact ⟨_, r1.of_bl, q _ _ _ _ h1 s1⟩
  · exact h1.elim
theorem qt_val (h : QE X e t) (he : ∀ whole, isTrue e X.env whole = (do let v ← whole; standAt e.pos; holding [v] (truthy v)) := by intro _; rfl) : QT X e (dB t) := pt_mono (pt_val h he) fun _ _ _ z => upT_B z
theorem qt_cmp {op : CmpOp} {r : DR2} (ho : OpD X (compareOp op) r) (ha : QE X a ta) (hb : QE X b tb) (hm : behindInMarks op b = false) : QT X (.Compare a [op] [b] pos) (dB (dOp r ta tb)) :=
  pt_mono (pt_cmpR ho ha hb hm) fun τ H Q h => by
    obtain ⟨σ, G, N, R, hs, hg, ht, q⟩ := h
    refine up_op ⟨σ, G, N, _, hs, hg, ht, fun x G1 N1 v1 H1 h1 s1 r1 => ?_⟩
    split at h1
    · exact ⟨_, r1.of_bl, q _ _ _ _ h1 s1⟩
    · exact h1.elim
theorem up_chain {K : PySem.W.Frag} {r r' : DR2} {τ : L2.St} {H : Hp} {Q : VK} (u : up K (dChain r r' ta tb tc) τ H Q) : tChain (upR2 K r) (upR2 K r') (up K ta) (up K tb) (up K tc) τ H Q := by
  obtain ⟨σ, G, N, R, hs, hg, ht, q⟩ := u
  refine ⟨σ, G, N, _, hs, hg, ht, fun x G1 N1 v1 H1 h1 s1 r1 => ?_⟩
  refine ⟨σ, G1, N1, _, hs.le s1.kp, s1.rel, h1, fun y G2 N2 v2 H2 h2 s2 r2 => ?_⟩
  refine ⟨x, y, G2, N2, _, r1.le s2.kp, r2, s2.rel, h2, fun z G3 N3 v3 H3 h3 s3 r3 => ?_⟩
  have s13 := (s1.trans s2).trans s3
  split at h3
  · refine ⟨true, r3.of_bl, ?_⟩
    rw [if_pos rfl]
    refine ⟨σ, G3, N3, _, hs.le s13.kp, s3.rel, h3, fun w G4 N4 v4 H4 h4 s4 r4 => ?_⟩
    exact ⟨y, w, G4, N4, R, (r2.le s3.kp).le s4.kp, r4, s4.rel, h4, q.le (s13.trans s4)⟩
  · refine ⟨false, r3.of_bl, ?_⟩
    rw [if_neg Bool.false_ne_true]
    exact (q.le s13).at s3.rel h3 (RD.bl _)
  · exact h3.elim
theorem qt_chain {op op' : CmpOp} {r r' : DR2} (ho : OpD X (compareOp op) r) (ho' : OpD X (compareOp op') r') (ha : QE X a ta) (hb : QE X b tb) (hc : QE X c tc)
    (hm : lastMarks [op, op'] [b, c] = false := by with_unfolding_all rfl) : QT X (.Compare a [op, op'] [b, c] pos) (dB (dChain r r' ta tb tc)) :=
  pt_mono (pt_chain ho ho' ha hb hc hm) fun τ H Q h => by
    obtain ⟨σ, G, N, R, hs, hg, ht, q⟩ := h
    refine up_chain ⟨σ, G, N, _, hs, hg, ht, fun x G1 N1 v1 H1 h1 s1 r1 => ?_⟩
    split at h1
    · exact ⟨_, r1.of_bl, q _ _ _ _ h1 s1⟩
    · exact h1.elim
variable {u u' : DT} {rest : List Expr}
def dAnd (t u : DT) : DT := fun σ G R => t σ G fun c G1 => match c with | true => u σ G1 R | false => R false G1
def dOr (t u : DT) : DT := fun σ G R => t σ G fun c G1 => match c with | true => R true G1 | false => u σ G1 R
def dNot (t : DT) : DT := fun σ G R => t σ G fun c G1 => R (!c) G1
theorem QW.pt (h : QW X e u) : QT X e u := PW.pt h
theorem qw_and1 (ha : QT X a u) : QW X (.BoolOp .And [a] pos) u := pw_and1 ha
theorem qw_or1 (ha : QT X a u) : QW X (.BoolOp .Or [a] pos) u := pw_or1 ha
theorem qw_and (ha : QT X a u) (hb : QW X (.BoolOp .And (b :: rest) pos) u') : QW X (.BoolOp .And (a :: b :: rest) pos) (dAnd u u') :=
  pw_mono (pw_and ha hb) fun τ H Q h => by
    obtain ⟨σ, G, N, R, hs, hg, ht, q⟩ := h
    refine ⟨σ, G, N, _, hs, hg, ht, fun c G1 N1 H1 h1 s1 => ?_⟩
    cases c with
    | true => rw [if_pos rfl]; exact ⟨σ, G1, N1, R, hs.le s1.kp, s1.rel, h1, fun b G2 N2 H2 h2 s2 => q b G2 N2 H2 h2 (s1.trans s2)⟩
    | false => rw [if_neg Bool.false_ne_true]; exact q _ _ _ _ h1 s1
theorem qw_or (ha : QT X a u) (hb : QW X (.BoolOp .Or (b :: rest) pos) u') : QW X (.BoolOp .Or (a :: b :: rest) pos) (dOr u u') :=
  pw_mono (pw_or ha hb) fun τ H Q h => by
    obtain ⟨σ, G, N, R, hs, hg, ht, q⟩ := h
    refine ⟨σ, G, N, _, hs, hg, ht, fun c G1 N1 H1 h1 s1 => ?_⟩
    cases c with
    | true => rw [if_pos rfl]; exact q _ _ _ _ h1 s1
    | false => rw [if_neg Bool.false_ne_true]; exact ⟨σ, G1, N1, R, hs.le s1.kp, s1.rel, h1, fun b G2 N2 H2 h2 s2 => q b G2 N2 H2 h2 (s1.trans s2)⟩
theorem qt_not (ha : QT X a u) : QT X (.UnaryOp .Not a pos) (dNot u) :=
  pt_mono (pt_not ha) fun τ H Q h => by
    obtain ⟨σ, G, N, R, hs, hg, ht, q⟩ := h
    exact ⟨σ, G, N, _, hs, hg, ht, fun c G1 N1 H1 h1 s1 => q _ _ _ _ h1 s1⟩
/-- .. as values that are bools -/
def dAndV (ta tb : DE) : DE := fun σ G R => ta σ G fun x G1 => match x with | .bl true => tb σ G1 R | .bl false => R (.bl false) G1 | _ => False
def dOrV (ta tb : DE) : DE := fun σ G R => ta σ G fun x G1 => match x with | .bl true => R (.bl true) G1 | .bl false => tb σ G1 R | _ => False
def dNotV (ta : DE) : DE := fun σ G R => ta σ G fun x G1 => match x with | .bl c => R (.bl (!c)) G1 | _ => False
theorem qe_one {op} (h : QE X a t) : QE X (.BoolOp op [a] pos) t := pe_one h
theorem qe_and (ha : QE X a ta) (hb : QE X (.BoolOp .And (b :: rest) pos) tb) : QE X (.BoolOp .And (a :: b :: rest) pos) (dAndV ta tb) :=
  pe_mono (pe_and ha hb) fun τ H Q h => by
    obtain ⟨σ, G, N, R, hs, hg, ht, q⟩ := h
    refine ⟨σ, G, N, _, hs, hg, ht, fun x G1 N1 v1 H1 h1 s1 r1 => ?_⟩
    split at h1
    · refine ⟨true, r1.of_bl, ?_⟩
      rw [if_pos rfl]
      exact ⟨σ, G1, N1, R, hs.le s1.kp, s1.rel, h1, q.le s1⟩
    · refine ⟨false, r1.of_bl, ?_⟩
      rw [if_neg Bool.false_ne_true]
      exact (q.le s1).at s1.rel h1 (RD.bl _)
    · exact h1.elim
theorem qe_not (ha : QE X a ta) : QE X (.UnaryOp .Not a pos) (dNotV ta) :=
  pe_mono (pe_not ha) fun τ H Q h => by
    obtain ⟨σ, G, N, R, hs, hg, ht, q⟩ := h
    refine ⟨σ, G, N, _, hs, hg, ht, fun x G1 N1 v1 H1 h1 s1 r1 => ?_⟩
    split at h1
    · exact ⟨_, r1.of_bl, (q.le s1).at s1.rel h1 (RD.bl _)⟩
    · exact h1.elim
def dIf (t : DT) (ta tb : DE) : DE := fun σ G R => t σ G fun c G1 => match c with | true => ta σ G1 R | false => tb σ G1 R
theorem qe_ifExp (hc : QT X c u) (ha : QE X a ta) (hb : QE X b tb) : QE X (.IfExp c a b pos) (dIf u ta tb) :=
  pe_mono (pe_ifExp hc ha hb) fun τ H Q h => by
    obtain ⟨σ, G, N, R, hs, hg, ht, q⟩ := h
    refine ⟨σ, G, N, _, hs, hg, ht, fun c G1 N1 H1 h1 s1 => ?_⟩
    cases c with
    | true => rw [if_pos rfl]; exact ⟨σ, G1, N1, R, hs.le s1.kp, s1.rel, h1, q.le s1⟩
    | false => rw [if_neg Bool.false_ne_true]; exact ⟨σ, G1, N1, R, hs.le s1.kp, s1.rel, h1, q.le s1⟩
/-! ### argument lists, displays -/
variable {es : List Expr} {tr : DA}
def dNil : DA := fun _ G R => R [] G
def dCons (ta : DE) (tr : DA) : DA := fun σ G R => ta σ G fun x G1 => tr σ G1 fun xs G2 => R (x :: xs) G2
theorem qa_nil : QA X [] dNil := pa_mono pa_nil fun τ H Q h => by
  obtain ⟨σ, G, N, R, hs, hg, ht, q⟩ := h
  exact q [] G N [] H ht (Stp.refl hg) RDs.nil
theorem qa_cons (ha : QE X e t) (hr : QA X es tr) (hs : starEach (e :: es) X.env = (false, eval e X.env) :: starEach es X.env := by rfl) : QA X (e :: es) (dCons t tr) :=
  pa_mono (pa_cons ha hr hs) fun τ H Q h => by
    obtain ⟨σ, G, N, R, hs, hg, ht, q⟩ := h
    refine ⟨σ, G, N, _, hs, hg, ht, fun x G1 N1 v1 H1 h1 s1 r1 => ?_⟩
    refine ⟨σ, G1, N1, _, hs.le s1.kp, s1.rel, h1, fun ds G2 N2 vs H2 h2 s2 r2 => ?_⟩
    exact q _ G2 N2 _ H2 h2 (s1.trans s2) (RDs.cons (r1.le s2.kp) r2)
/-- a new list: known (to be changed), or one that nobody changes -/
def newL (mk : Bool) (ds : List D) (G : Gp) (R : DK) : Prop := match mk with | true => ∀ p, G p = none → R (.ref p) (gup G p (.lst ds)) | false => R (.lst ds) G
theorem newL_ok {K : PySem.W.Frag} {mk : Bool} {H : Hp} {N : Ns} {G : Gp} {ds : List D} {vs : List V} {R : DK} {Q : VK} (r : RelG K H N G) (rd : RDs K H N ds vs) (h : newL mk ds G R) (q : UpQ K H N G R Q) {p : Addr} (np : H p = none) : Q (.ref p) (upd H p (.lst vs)) := by
  cases mk with
  | true =>
    exact q _ _ _ _ _ (h p (r.free np)) (Stp.new (u := .lst vs) (o := .lst ds) r np ⟨vs, upd_same, rd.le (Kp.new np)⟩) (RD.ref p)
  | false =>
    exact q _ _ _ _ _ h (Stp.newV (u := .lst vs) r np) (RD.lst (.inl ⟨upd_same, fun z => z.1 rfl⟩) (rd.le (Kp.newV np)))
theorem newT_ok {K : PySem.W.Frag} {H : Hp} {N : Ns} {G : Gp} {ds : List D} {vs : List V} {R : DK} {Q : VK} (r : RelG K H N G) (rd : RDs K H N ds vs) (h : R (.tup ds) G) (q : UpQ K H N G R Q) {p : Addr} (np : H p = none) : Q (.ref p) (upd H p (.tup vs)) :=
  q _ _ _ _ _ h (Stp.new0 (u := .tup vs) r np) (RD.tup (.inl (.inl upd_same)) (rd.le (Kp.new0 np)))
def dTup (t : DA) : DE := fun σ G R => t σ G fun ds G1 => ds.length ≤ sizeLine ∧ R (.tup ds) G1
def dLst (mk : Bool) (t : DA) : DE := fun σ G R => t σ G fun ds G1 => ds.length ≤ sizeLine ∧ newL mk ds G1 R
theorem qe_tup {x1} (h : QA X es tr) : QE X (.Tuple es x1 pos) (dTup tr) := pe_mono (pe_tup h) fun τ H Q h => by
  obtain ⟨σ, G, N, R, hs, hg, ht, q⟩ := h
  refine ⟨σ, G, N, _, hs, hg, ht, fun ds G1 N1 vs H1 h1 s1 r1 => ⟨by rw [← r1.length]; exact h1.1, fun p np => ?_⟩⟩
  exact newT_ok s1.rel r1 h1.2 (q.le s1) np
theorem qe_lst (mk : Bool) (h : QA X es tr) : QE X (.List es pos) (dLst mk tr) := pe_mono (pe_lst h) fun τ H Q h => by
  obtain ⟨σ, G, N, R, hs, hg, ht, q⟩ := h
  refine ⟨σ, G, N, _, hs, hg, ht, fun ds G1 N1 vs H1 h1 s1 r1 => ⟨by rw [← r1.length]; exact h1.1, fun p np => ?_⟩⟩
  exact newL_ok s1.rel r1 h1.2 (q.le s1) np
/-! ### calls of built-ins -/
def dCallB (r : DRn) (t : DA) : DE := fun σ G R => t σ G fun ds G1 => r ds G1 R
end
end DL

set_option Elab.async false
set_option linter.all false
set_option maxRecDepth 100000
set_option maxHeartbeats 4000000
set_option autoImplicit false
namespace DL
open PySem PySem.Spec PyProof.Rows L2

/-! ### blocks and small statements -/
theorem UpE.le {K : PySem.W.Frag} {H H1 : Hp} {N N1 : Ns} {G G1 : Gp} {E : DEnds} {D : Ends} (u : UpE K H N G E D) (s : Stp K H N G H1 N1 G1) : UpE K H1 N1 G1 E D :=
  ⟨fun σ' G' N' τ' H' h s' => u.nx σ' G' N' τ' H' h (s.trans s'), u.rt.le s, fun σ' G' N' τ' H' h s' => u.bk σ' G' N' τ' H' h (s.trans s'), fun σ' G' N' τ' H' h s' => u.ct σ' G' N' τ' H' h (s.trans s')⟩
section
variable {X : Cx} {st : Stmt} {rest : List Stmt} {t u : DS} {e : Expr} {te : DE} {pos : Pos}
def dNext : DS := fun D σ G => D.nx σ G
def dSeq (t u : DS) : DS := fun D σ G => t { D with nx := u D } σ G
theorem qss_nil : QSs X [] dNext := pss_mono pss_nil fun D τ H h => by
  obtain ⟨σ, G, N, E, hs, hg, ht, q⟩ := h
  exact q.nx _ _ _ _ _ ht (Stp.refl hg) hs
theorem qss_cons (h1 : QS X st t) (h2 : QSs X rest u) : QSs X (st :: rest) (dSeq t u) := pss_mono (pss_cons h1 h2) fun D τ H h => by
  obtain ⟨σ, G, N, E, hs, hg, ht, q⟩ := h
  refine ⟨σ, G, N, _, hs, hg, ht, ⟨fun σ' G' N' τ' H' h s' r => ?_, q.rt, q.bk, q.ct⟩⟩
  exact ⟨σ', G', N', E, r, s'.rel, h, q.le s'⟩
theorem qss_one (h1 : QS X st t) : QSs X [st] t := pss_mono (pss_one h1) fun D τ H h => h
def dBreak : DS := fun D σ G => D.bk σ G
def dCont : DS := fun D σ G => D.ct σ G
def dDrop (te : DE) : DS := fun D σ G => te σ G fun _ G1 => D.nx σ G1
theorem qs_expr (he : QE X e te) (hs : swapsWith e none pos.line X.env = pure false := by rfl) : QS X (.Expr e pos) (dDrop te) := ps_mono (ps_expr he hs) fun D τ H h => by
  obtain ⟨σ, G, N, E, hs, hg, ht, q⟩ := h
  exact ⟨σ, G, N, _, hs, hg, ht, fun d G' N' v H' h s' r => q.nx _ _ _ _ _ h s' (hs.le s'.kp)⟩
/-- what may be said instead: fewer known things, a list that is left alone from now on -/
inductive Wk (G : Gp) : D → D → Gp → Prop where
  | same {d : D} {G0 : Gp} : Sub G0 G → Wk G d d G0
  | lst {p : Addr} {ds : List D} {G0 : Gp} : G p = some (.lst ds) → Sub G0 G → G0 p = none → Wk G (.ref p) (.lst ds) G0
theorem UpQ.wk {K : PySem.W.Frag} {H0 H : Hp} {N0 N : Ns} {G0 G G' : Gp} {R : DK} {Q : VK} {d d' : D} {v : V} (q : UpQ K H0 N0 G0 R Q) (s : Stp K H0 N0 G0 H N G) (rd : RD K H N d v) (w : Wk G d d' G') (h : R d' G') (hy : ∀ p, G p ≠ none → H0 p = none ∨ G0 p ≠ none) : Q v H := by
  cases w with
  | same sb => exact q _ _ _ _ _ h (s.trans (s.rel.sub sb)) rd
  | @lst p ds _ e sb n =>
    obtain rfl := rd.of_ref
    obtain ⟨hN, vs, hv, hd⟩ := s.rel p _ e
    have s2 := (s.trans (s.rel.sub sb)).calm (hy p (by rw [e]; simp)) n
    exact q _ _ _ _ _ h s2 (RD.lst (.inl ⟨hv, fun z => z.1 rfl⟩) (hd.le Kp.calm))
theorem Stp.old {K : PySem.W.Frag} {H0 H : Hp} {N0 N : Ns} {G0 G : Gp} (s : Stp K H0 N0 G0 H N G) (p : Addr) (h : G p ≠ none) : H0 p = none ∨ G0 p ≠ none := by
  cases e : H0 p with
  | none => exact .inl rfl
  | some u =>
    refine .inr fun n => h ?_
    exact (s.fr p u e n).2.1
def dRet (te : DE) : DS := fun D σ G => te σ G fun d G1 => ∃ d' G', Wk G1 d d' G' ∧ D.rt d' G'
theorem qs_ret (he : QE X e te) : QS X (.Return (some e) pos) (dRet te) := ps_mono (ps_ret he) fun D τ H h => by
  obtain ⟨σ, G, N, E, hs, hg, ht, q⟩ := h
  refine ⟨σ, G, N, _, hs, hg, ht, fun d G' N' v H' h s' r => ?_⟩
  obtain ⟨d', G2, w, h⟩ := h
  exact q.rt.wk s' r w h s'.old
def dRetN : DS := fun D _ G => ∃ G', Sub G' G ∧ D.rt .non G'
def dIfS (c : DT) (t u : DS) : DS := fun D σ G => c σ G fun b G1 => match b with | true => t D σ G1 | false => u D σ G1
theorem qs_if {c : Expr} {a b : List Stmt} {tc : DT} (hc : QT X c tc) (ha : QSs X a t) (hb : QSs X b u) : QS X (.If c a b pos) (dIfS tc t u) := ps_mono (ps_if hc ha hb) fun D τ H h => by
  obtain ⟨σ, G, N, E, hs, hg, ht, q⟩ := h
  refine ⟨σ, G, N, _, hs, hg, ht, fun b G1 N1 H1 h1 s1 => ?_⟩
  cases b with
  | true => rw [if_pos rfl]; exact ⟨σ, G1, N1, E, hs.le s1.kp, s1.rel, h1, q.le s1⟩
  | false => rw [if_neg Bool.false_ne_true]; exact ⟨σ, G1, N1, E, hs.le s1.kp, s1.rel, h1, q.le s1⟩
end
/-! ### targets -/
section
variable {X : Cx} {e : Expr} {te : DE} {pos : Pos}
def setAll (σ : Sd) : List Nat → List D → Sd
  | i :: is, d :: ds => setAll (σ.set i (some d)) is ds
  | _, _ => σ
def setAllV (σ : L2.St) : List Nat → List V → L2.St
  | i :: is, d :: ds => setAllV (σ.set i (some d)) is ds
  | _, _ => σ
theorem RSt.setAll {K : PySem.W.Frag} {H : Hp} {N : Ns} : ∀ (is : List Nat) {ds : List D} {vs : List V} {σ : Sd} {τ : L2.St}, RSt K H N σ τ → RDs K H N ds vs → RSt K H N (setAll σ is ds) (setAllV τ is vs)
  | [], _, _, _, _, h, _ => h
  | i :: is, [], _, _, _, h, r => by rw [r.of_nil]; exact h
  | i :: is, d :: ds, _, _, _, h, r => by
    obtain ⟨v, rr, rfl, r1, r2⟩ := r.of_cons
    exact RSt.setAll is (h.set r1 i) r2
/-- what a target does: by data, by values; the slots vs alone are changed -/
def TgOk (K : PySem.W.Frag) (vg : TG) (dg : DG) (ws : List Nat) : Prop :=
  ∀ (d : D) (v : V) (σ : Sd) (τ : L2.St) (H : Hp) (N : Ns) (G : Gp) (R : Sd → Gp → Prop) (Q : L2.St → Hp → Prop), RD K H N d v → RSt K H N σ τ → RelG K H N G → dg d σ G R →
    (∀ σ' τ', R σ' G → RSt K H N σ' τ' → wipe τ' ws = wipe τ ws → Q τ' H) → vg v τ H Q
theorem wipe_set {τ : L2.St} {i : Nat} {x : Option V} : ∀ {ws : List Nat}, i ∈ ws → wipe (τ.set i x) ws = wipe τ ws
  | [], h => by cases h
  | w :: ws, h => by
    unfold wipe
    by_cases e : i ∈ ws
    · rw [wipe_set e]
    · have e2 : i = w := by
        rcases List.mem_cons.mp h with h | h
        · exact h
        · exact absurd h e
      subst e2
      have aux : ∀ vs : List Nat, i ∉ vs → wipe (τ.set i x) vs = (wipe τ vs).set i x := by
        intro vs
        induction vs with
        | nil => intro _; rfl
        | cons v vs ih =>
          intro hv
          unfold wipe
          rw [ih (fun z => hv (List.mem_cons_of_mem _ z)), List.set_comm]
          exact fun z => hv (by rw [z]; exact List.mem_cons_self)
      rw [aux ws e, List.set_set]
def dName (i : Nat) : DG := fun d σ G R => R (σ.set i (some d)) G
theorem tg_name {K : PySem.W.Frag} {ws : List Nat} {i : Nat} (h : i ∈ ws) : TgOk K (gName i) (dName i) ws := fun d v σ τ H N G R Q rd rs rg h0 q => q _ _ h0 (rs.set rd i) (wipe_set h)
def gNames : List Nat → TGs
  | [] => gNil
  | i :: is => gCons (gName i) (gNames is)
theorem gNames_ok {Q : L2.St → Hp → Prop} : ∀ {is : List Nat} {vs : List V} {τ : L2.St} {H : Hp}, vs.length = is.length → Q (setAllV τ is vs) H → gNames is vs τ H Q
  | [], [], _, _, _, h => ⟨rfl, h⟩
  | [], _ :: _, _, _, e, _ => by simp at e
  | i :: is, [], _, _, e, _ => by simp at e
  | i :: is, v :: vs, τ, H, e, h => ⟨v, vs, rfl, gNames_ok (by simpa using e) h⟩
theorem wipe_setAll : ∀ {is : List Nat} {vs : List V} {τ : L2.St} {ws : List Nat}, (∀ i ∈ is, i ∈ ws) → wipe (setAllV τ is vs) ws = wipe τ ws
  | [], _, _, _, _ => by simp [setAllV]
  | i :: is, [], _, _, _ => by simp [setAllV]
  | i :: is, v :: vs, τ, ws, h => by
    rw [setAllV, wipe_setAll (fun j hj => h j (List.mem_cons_of_mem _ hj)), wipe_set (h i List.mem_cons_self)]
def dNames (is : List Nat) : DG := fun d σ G R => match d with | .tup ds => ds.length = is.length ∧ R (setAll σ is ds) G | _ => False
theorem tg_names {K : PySem.W.Frag} {ws is : List Nat} {n : Nat} (h : ∀ i ∈ is, i ∈ ws) (hn : is.length = n) : TgOk K (gTup K n (gNames is)) (dNames is) ws := fun d v σ τ H N G R Q rd rs rg h0 q => by
  unfold dNames at h0
  split at h0
  · rename_i ds
    obtain ⟨p, vs, rfl, sq, r⟩ := rd.of_tup
    have hl := r.length
    refine ⟨p, vs, rfl, sq, by omega, gNames_ok (by omega) ?_⟩
    exact q _ _ h0.2 (RSt.setAll is rs r) (wipe_setAll h)
  · exact h0.elim
/-- a target, by data -/
theorem qg_of {tg : Expr} {vg : TG} {dg : DG} {ws : List Nat} (h : PG X tg vg) (t : TgOk X.K vg dg ws) : QG X tg dg := pg_mono h fun v τ H Q h => by
  obtain ⟨d, σ, G, N, R, rd, rs, rg, h0, q⟩ := h
  exact t d v σ τ H N G R Q rd rs rg h0 fun σ' τ' h1 r1 _ => q _ _ _ _ _ h1 (Stp.refl rg) r1
/-- name = value -/
def dAsg (te : DE) (g : DG) : DS := fun D σ G => te σ G fun x G1 => g x σ G1 D.nx
theorem upS_asg {K : PySem.W.Frag} {g : DG} {D : Ends} {τ : L2.St} {H : Hp} (h : upS K (dAsg te g) D τ H) : tAsg (up K te) (upG K g) D τ H := by
  obtain ⟨σ, G, N, E, hs, hg, ht, q⟩ := h
  refine ⟨σ, G, N, _, hs, hg, ht, fun d G' N' v H' h s' r => ?_⟩
  exact ⟨d, σ, G', N', _, r, hs.le s'.kp, s'.rel, h, fun σ2 G2 N2 τ2 H2 h2 s2 r2 => q.nx _ _ _ _ _ h2 (s'.trans s2) r2⟩
theorem qs_set {i : Nat} {x : Str} {pos' : Pos} (hN : X.N.Nodup) (hi : X.N[i]? = some x) (hx : Loc X.env.scope x) (he : QE X e te) (hs : swapsWith e (some (.Name x pos')) pos.line X.env = pure false := by rfl) (hf : X.fn x = true ∨ X.env.scope.names.lookup x = some .local := by first | exact .inl rfl | exact .inr rfl | assumption) :
    QS X (.Assign [.Name x pos'] e pos) (dAsg te (dName i)) := ps_mono (ps_set hN hi hx he hs hf) fun D τ H h => by
  obtain ⟨σ, G, N, E, hs, hg, ht, q⟩ := h
  refine ⟨σ, G, N, _, hs, hg, ht, fun d G' N' v H' h s' r => ?_⟩
  exact q.nx _ _ _ _ _ h s' ((hs.le s'.kp).set r i)
theorem qs_asg {tg : Expr} {g : DG} (he : QE X e te) (hg : QG X tg g) (hs : swapsWithSole [tg] e pos.line X.env = pure false := by rfl) (hw : swappedStores [tg] e X.env = pure none := by rfl)
    (h1 : (assignEach [tg] X.env).map (·.2) = [assign tg X.env] := by rfl) : QS X (.Assign [tg] e pos) (dAsg te g) := ps_mono (ps_asg he hg hs hw h1) fun D τ H h => upS_asg h
/-- o[i] = .. , by data -/
abbrev DSet := D → D → D → Gp → (Gp → Prop) → Prop
def upSet (K : PySem.W.Frag) (r : DSet) : TSet := fun o i v H Q => ∃ c d e G N R, RD K H N c o ∧ RD K H N d i ∧ RD K H N e v ∧ RelG K H N G ∧ r c d e G R ∧ ∀ G' N' H', R G' → Stp K H N G H' N' G' → Q H'
def SetD (X : Cx) (r : DSet) : Prop := PSet X (upSet X.K r)
def dSub (to ti : DE) (r : DSet) : DG := fun v σ G R => to σ G fun o G1 => ti σ G1 fun i G2 => r o i v G2 fun G3 => R σ G3
theorem qg_sub {o i : Expr} {to ti : DE} {r : DSet} (ho : QE X o to) (hi : QE X i ti) (hs : SetD X r)
    (ha : ∀ v, assign (.Subscript o i pos) X.env v = (do
      let ov ← holding [v] (eval o X.env)
      let iv ← holding [v, ov] (eval i X.env)
      standAt pos
      holding [v, ov, iv] (setItem ov iv v)
      release [v, ov, iv] []) := by intro _; rfl) : QG X (.Subscript o i pos) (dSub to ti r) := pg_mono (pg_sub ho hi hs ha) fun v τ H Q h => by
  obtain ⟨d, σ, G, N, R, rd, rs, rg, h0, q⟩ := h
  refine ⟨σ, G, N, _, rs, rg, h0, fun x G1 N1 v1 H1 h1 s1 r1 => ?_⟩
  refine ⟨σ, G1, N1, _, rs.le s1.kp, s1.rel, h1, fun y G2 N2 v2 H2 h2 s2 r2 => ?_⟩
  exact ⟨x, y, d, G2, N2, _, r1.le s2.kp, r2, (rd.le s1.kp).le s2.kp, s2.rel, h2, fun G3 N3 H3 h3 s3 => q _ _ _ _ _ h3 ((s1.trans s2).trans s3) (((rs.le s1.kp).le s2.kp).le s3.kp)⟩
/-- name op= e -/
def dAug (i : Nat) (te : DE) (r : DR2) : DS := fun D σ G => match σ[i]? with | some (some x) => te σ G fun y G1 => r x y G1 fun z G2 => D.nx (σ.set i (some z)) G2 | _ => False
def GetD (X : Cx) (r : DR2) : Prop := PGet X (upR2 X.K r)
def dAugS (to ti te : DE) (rg rp : DR2) (rs : DSet) : DS := fun D σ G => to σ G fun o G1 => ti σ G1 fun i G2 => rg o i G2 fun x G3 => te σ G3 fun y G4 => rp x y G4 fun z G5 => rs o i z G5 fun G6 => D.nx σ G6
theorem qs_augS {o i : Expr} {to ti : DE} {rg rp : DR2} {rs : DSet} {op : Operator} {tpos : Pos} (ho : QE X o to) (hi : QE X i ti) (hg : GetD X rg) (he : QE X e te) (hp : OpD X (inplaceOp op) rp) (hs : SetD X rs)
    (ha : ∀ ov iv new, augStore i ov iv new = (do holding [new, ov, iv] (setItem ov iv new); release [new, ov, iv] []; pure .next) := by intros; rfl) : QS X (.AugAssign (.Subscript o i tpos) op e pos) (dAugS to ti te rg rp rs) :=
  ps_mono (ps_augS (tip := upR2 X.K rp) ho hi hg he (fun pins s σ H x y v u Q I r1 r2 q => hp pins s σ H x y v u Q I r1 r2 q) hs ha) fun D τ H h => by
  obtain ⟨σ, G, N, E, hs, hg, ht, q⟩ := h
  refine ⟨σ, G, N, _, hs, hg, ht, fun o G1 N1 v1 H1 h1 s1 r1 => ?_⟩
  refine ⟨σ, G1, N1, _, hs.le s1.kp, s1.rel, h1, fun i G2 N2 v2 H2 h2 s2 r2 => ?_⟩
  refine ⟨o, i, G2, N2, _, r1.le s2.kp, r2, s2.rel, h2, fun x G3 N3 v3 H3 h3 s3 r3 => ?_⟩
  have s13 := (s1.trans s2).trans s3
  refine ⟨σ, G3, N3, _, hs.le s13.kp, s3.rel, h3, fun y G4 N4 v4 H4 h4 s4 r4 => ?_⟩
  refine ⟨x, y, G4, N4, _, r3.le s4.kp, r4, s4.rel, h4, fun z G5 N5 v5 H5 h5 s5 r5 => ?_⟩
  have s25 := ((s2.trans s3).trans s4).trans s5
  have s15 := s1.trans s25
  exact ⟨o, i, z, G5, N5, _, r1.le s25.kp, r2.le ((s3.trans s4).trans s5).kp, r5, s5.rel, h5, fun G6 N6 H6 h6 s6 => q.nx _ _ _ _ _ h6 (s15.trans s6) (hs.le (s15.trans s6).kp)⟩
end
/-! ### while -/
section
variable {X : Cx} {pos : Pos}
def dWhN (c : DT) (tb : DS) (D : DEnds) : Nat → Sd → Gp → Prop
  | 0, _, _ => False
  | n + 1, σ, G => c σ G fun b G1 => match b with | true => tb { D with nx := dWhN c tb D n, ct := dWhN c tb D n, bk := D.nx } σ G1 | false => D.nx σ G1
def dWhile (c : DT) (tb : DS) : DS := fun D σ G => ∃ n, dWhN c tb D n σ G
theorem qs_while {c : Expr} {body : List Stmt} {tc : DT} {tb : DS} (hp : PassesOwn (model X.prog X.w) X.A X.env X.xe) (hc : QT X c tc) (hb : QSs X body tb) : QS X (.While c body [] pos) (dWhile tc tb) := ps_mono (ps_while hp hc hb) fun D τ H h => by
  obtain ⟨σ, G, N, E, hs, hg, ⟨n, ht⟩, q⟩ := h
  refine ⟨fun m τ' H' => ∃ σ' G' N', RSt X.K H' N' σ' τ' ∧ Stp X.K H N G H' N' G' ∧ dWhN tc tb E m σ' G', ⟨n, σ, G, N, hs, Stp.refl hg, ht⟩, ?_⟩
  rintro m τ1 H1 ⟨σ1, G1, N1, r1, s1, h1⟩
  cases m with
  | zero => exact h1.elim
  | succ m =>
    refine ⟨σ1, G1, N1, _, r1, s1.rel, h1, fun b G2 N2 H2 h2 s2 => ?_⟩
    cases b with
    | true =>
      rw [if_pos rfl]
      refine ⟨fun τ' H' => ∃ σ' G' N', RSt X.K H' N' σ' τ' ∧ Stp X.K H N G H' N' G' ∧ dWhN tc tb E m σ' G', fun τ' H' z => ⟨m, Nat.lt_succ_self m, z⟩, ?_⟩
      have s12 := s1.trans s2
      refine ⟨σ1, G2, N2, _, r1.le s2.kp, s2.rel, h2, ⟨fun σ' G' N' τ' H' h s' r => ⟨σ', G', N', r, s12.trans s', h⟩, (q.le s12).rt, fun σ' G' N' τ' H' h s' r => q.nx _ _ _ _ _ h (s12.trans s') r, fun σ' G' N' τ' H' h s' r => ⟨σ', G', N', r, s12.trans s', h⟩⟩⟩
    | false =>
      rw [if_neg Bool.false_ne_true]
      exact q.nx _ _ _ _ _ h2 (s1.trans s2) (r1.le s2.kp)
end
/-! ### what is walked -/
abbrev DI := Sd → Gp → (List D → (Gp → Prop) → Gp → Prop) → Prop
/-- J yields the things xs, one behind the other, wherever gd holds of what is known -/
structure Yl (K : PySem.W.Frag) (J : It) (H0 : Hp) (N0 : Ns) (G0 : Gp) (xs : List D) (gd : Gp → Prop) : Prop where
  go : ∀ i H N G d, Stp K H0 N0 G0 H N G → gd G → xs[i]? = some d → J.go i H ∧ ∀ x H', J.yld i H x H' → Stp K H N G H' N G ∧ RD K H' N d x
  stop : ∀ i H N G, Stp K H0 N0 G0 H N G → gd G → xs.length = i → J.stop i H
theorem Yl.of {K : PySem.W.Frag} {J : It} {H0 : Hp} {N0 : Ns} {G0 : Gp} {xs : List D} {gd : Gp → Prop} (go : ∀ i H N G d, Stp K H0 N0 G0 H N G → gd G → xs[i]? = some d → J.go i H ∧ ∀ x H', J.yld i H x H' → Stp K H N G H' N G ∧ RD K H' N d x)
    (stop : ∀ i H N G, Stp K H0 N0 G0 H N G → gd G → xs.length ≤ i → J.stop i H) : Yl K J H0 N0 G0 xs gd := ⟨go, fun i H N G s g e => stop i H N G s g (Nat.le_of_eq e)⟩
def upI (K : PySem.W.Frag) (ti : DI) : TI := fun τ H R => ∃ σ G N R', RSt K H N σ τ ∧ RelG K H N G ∧ ti σ G R' ∧ ∀ xs gd G' N' J H', R' xs gd G' → Stp K H N G H' N' G' → Yl K J H' N' G' xs gd → R J H'
def QI (X : Cx) (tg iter : Expr) (ti : DI) : Prop := PI X tg iter (upI X.K ti)
theorem pi_mono {X : Cx} {tg e : Expr} {t t' : TI} (h : PI X tg e t) (i : ∀ τ H Q, t' τ H Q → t τ H Q) : PI X tg e t' := ⟨fun pins s σ H Q I q => h.run pins s σ H Q I (i σ H Q q)⟩
def dForGo (g : DG) (tb : DS) (gd : Gp → Prop) (E : DEnds) : List D → Sd → Gp → Prop
  | [], σ, G => gd G ∧ E.nx σ G
  | x :: xs, σ, G => gd G ∧ g x σ G fun σ2 G2 => tb { E with nx := dForGo g tb gd E xs, ct := dForGo g tb gd E xs, bk := E.nx } σ2 G2
def dFor (ti : DI) (g : DG) (tb : DS) : DS := fun D σ G => ti σ G fun xs gd G1 => dForGo g tb gd D xs σ G1
section
variable {X : Cx} {tg : Expr} {pos : Pos}
theorem qs_for {iter : Expr} {body : List Stmt} {ti : DI} {g : DG} {tb : DS} (hp : PassesOwn (model X.prog X.w) X.A X.env X.xe) (hc : X.calm = true) (hi : QI X tg iter ti) (hg : QG X tg g) (hb : QSs X body tb)
    (hs : ∀ x, foldedSetIterable iter X.env x = pure x := by intro _; rfl) : QS X (.For tg iter body [] pos) (dFor ti g tb) := ps_mono (ps_for hp hc hi hg hb hs) fun D τ H h => by
  obtain ⟨σ, G, N, E, hs, hg, ht, q⟩ := h
  refine ⟨σ, G, N, _, hs, hg, ht, fun xs gd G1 N1 J H1 h1 s1 y => ?_⟩
  refine ⟨fun i m τ' H' => m = xs.length - i ∧ i ≤ xs.length ∧ ∃ σ' G' N', RSt X.K H' N' σ' τ' ∧ Stp X.K H1 N1 G1 H' N' G' ∧ dForGo g tb gd E (xs.drop i) σ' G', ⟨xs.length, rfl, Nat.zero_le _, σ, G1, N1, hs.le s1.kp, Stp.refl s1.rel, h1⟩, ?_⟩
  rintro i m τ2 H2 ⟨rfl, hi, σ2, G2, N2, r2, s2, h2⟩
  by_cases hlt : i < xs.length
  · rw [List.drop_eq_getElem_cons hlt] at h2
    obtain ⟨hgd, h2⟩ := h2
    obtain ⟨go, yld⟩ := y.go i H2 N2 G2 xs[i] s2 hgd (List.getElem?_eq_getElem hlt)
    refine .inr ⟨go, fun τ' H' => ∃ σ' G' N', RSt X.K H' N' σ' τ' ∧ Stp X.K H1 N1 G1 H' N' G' ∧ dForGo g tb gd E (xs.drop (i + 1)) σ' G', fun τ' H' z => ⟨xs.length - (i + 1), by omega, rfl, hlt, z⟩, fun x H3 hy => ?_⟩
    obtain ⟨s3, r3⟩ := yld x H3 hy
    refine ⟨xs[i], σ2, G2, N2, _, r3, r2.le s3.kp, s3.rel, h2, fun σ4 G4 N4 τ4 H4 h4 s4 r4 => ?_⟩
    have s14 := (s2.trans s3).trans s4
    refine ⟨σ4, G4, N4, _, r4, s4.rel, h4, ⟨fun σ' G' N' τ' H' h s' r => ⟨σ', G', N', r, s14.trans s', h⟩, (q.le (s1.trans s14)).rt, fun σ' G' N' τ' H' h s' r => q.nx _ _ _ _ _ h ((s1.trans s14).trans s') r, fun σ' G' N' τ' H' h s' r => ⟨σ', G', N', r, s14.trans s', h⟩⟩⟩
  · have e : i = xs.length := by omega
    subst e
    rw [List.drop_length] at h2
    exact .inl ⟨y.stop _ H2 N2 G2 s2 h2.1 rfl, q.nx _ _ _ _ _ h2.2 (s1.trans s2) r2⟩
end
/-! ### comprehensions -/
def wipeD (σ : Sd) : List Nat → Sd
  | [] => σ
  | v :: vs => (wipeD σ vs).set v none
theorem RSt.wipe {K : PySem.W.Frag} {H : Hp} {N : Ns} {σ : Sd} {τ : L2.St} (h : RSt K H N σ τ) : ∀ vs : List Nat, RSt K H N (wipeD σ vs) (L2.wipe τ vs)
  | [] => h
  | v :: vs => by
    have ih := RSt.wipe h vs
    unfold wipeD L2.wipe
    refine ⟨by rw [List.length_set, List.length_set]; exact ih.1, fun i d e => ?_⟩
    by_cases hj : v = i
    · subst hj
      rw [List.getElem?_set] at e
      simp only [if_true] at e
      split at e
      · cases e
      · cases e
    · rw [List.getElem?_set_ne hj] at e ⊢
      exact ih.2 i d e
def dLcGo (g : DG) (tt : DT) (te : DE) (gd : Gp → Prop) (σ : Sd) : List D → List D → Gp → (List D → Gp → Prop) → Prop
  | [], acc, G, Q => gd G ∧ Q acc G
  | x :: xs, acc, G, Q => gd G ∧ g x σ G fun σ2 G2 => tt σ2 G2 fun b G3 => match b with
    | true => te σ2 G3 fun y G4 => dLcGo g tt te gd σ xs (acc ++ [y]) G4 Q
    | false => dLcGo g tt te gd σ xs acc G3 Q
def dLc (mk : Bool) (ti : DI) (g : DG) (tt : DT) (te : DE) (ws : List Nat) : DE := fun σ G R => ti σ G fun xs gd G1 => xs.length ≤ sizeLine ∧ dLcGo g tt te gd (wipeD σ ws) xs [] G1 fun ds G2 => newL mk ds G2 R
def QTs (X : Cx) (ifs : List Expr) (t : DT) : Prop := PTs X ifs (upT X.K t)
def dYes : DT := fun _ G R => R true G
theorem qts_nil {X : Cx} : QTs X [] dYes := ⟨fun pins s σ H Q I h => (pts_nil (X := X)).run pins s σ H Q I (by
  obtain ⟨σ', G, N, R, hs, hg, ht, q⟩ := h
  exact q _ _ _ _ ht (Stp.refl hg))⟩
theorem qts_one {X : Cx} {c : Expr} {t : DT} (h : QT X c t) : QTs X [c] t := pts_one h
theorem up_lc {K : PySem.W.Frag} {mk : Bool} {ti : DI} {vg : TG} {g : DG} {tt : DT} {te : DE} {ws : List Nat} (tgo : TgOk K vg g ws) {τ : L2.St} {H : Hp} {Q : VK} (h : up K (dLc mk ti g tt te ws) τ H Q) : tLc (upI K ti) vg (upT K tt) (up K te) ws τ H Q := by
  obtain ⟨σ, G, N, R, hs, hg, ht, q⟩ := h
  refine ⟨σ, G, N, _, hs, hg, ht, fun xs gd G1 N1 J H1 h1 s1 y => ?_⟩
  obtain ⟨hlen, h1⟩ := h1
  intro p np
  have q1 := q.le s1
  let Q' : List D → Gp → Prop := fun ds G2 => newL mk ds G2 R
  refine ⟨fun i m H' => m = xs.length - i ∧ i ≤ xs.length ∧ ∃ acc vacc G' N', H' p = some (.lst vacc) ∧ RDs K H' N' acc vacc ∧ acc.length ≤ i ∧ G' p = none ∧ N' p ∧ Stp K H1 N1 G1 H' N' G' ∧ dLcGo g tt te gd (wipeD σ ws) (xs.drop i) acc G' Q',
    ⟨xs.length, rfl, Nat.zero_le _, [], [], G1, nadd N1 p, upd_same, RDs.nil, Nat.zero_le _, s1.rel.free np, .inl rfl, ?_, h1⟩, ?_⟩
  · refine ⟨Kp.new np, fun q x e n => ⟨by rw [upd_ne (ne_of_none e np)]; exact e, n, .inr⟩, fun a o' e => ?_⟩
    obtain ⟨x, hx, _⟩ := (s1.rel a o' e).2.here
    exact ⟨.inr (s1.rel a o' e).1, (s1.rel a o' e).2.le (Kp.new np) (upd_ne (ne_of_none hx np))⟩
  rintro i m H2 ⟨rfl, hi, acc, vacc, G2, N2, hp2, ra2, hal, gp2, nn2, s2, h2⟩
  by_cases hlt : i < xs.length
  · rw [List.drop_eq_getElem_cons hlt] at h2
    obtain ⟨hgd, h2⟩ := h2
    obtain ⟨go, yld⟩ := y.go i H2 N2 G2 xs[i] s2 hgd (List.getElem?_eq_getElem hlt)
    refine .inr ⟨go, fun H' => ∃ acc vacc G' N', H' p = some (.lst vacc) ∧ RDs K H' N' acc vacc ∧ acc.length ≤ i + 1 ∧ G' p = none ∧ N' p ∧ Stp K H1 N1 G1 H' N' G' ∧ dLcGo g tt te gd (wipeD σ ws) (xs.drop (i + 1)) acc G' Q', fun H' z => ⟨xs.length - (i + 1), by omega, rfl, hlt, z⟩, fun x H3 hy => ?_⟩
    obtain ⟨s3, r3⟩ := yld x H3 hy
    have rw3 : RSt K H3 N2 (wipeD σ ws) (L2.wipe τ ws) := (((hs.le s1.kp).le s2.kp).le s3.kp).wipe ws
    refine tgo xs[i] x (wipeD σ ws) (L2.wipe τ ws) H3 N2 G2 _ _ r3 rw3 s3.rel h2 fun σ4 τ4 h4 r4 w4 => ⟨?_, ?_⟩
    · rw [w4]
      have aux : ∀ (us vs : List Nat), (∀ v ∈ us, v ∈ vs) → L2.wipe (L2.wipe τ vs) us = L2.wipe τ vs := by
        intro us
        induction us with
        | nil => intro vs _; rfl
        | cons u us ih =>
          intro vs hv
          show (L2.wipe (L2.wipe τ vs) us).set u none = _
          rw [ih vs (fun v hv' => hv v (List.mem_cons_of_mem _ hv'))]
          have hm := hv u List.mem_cons_self
          apply List.ext_getElem?
          intro j
          by_cases hj : u = j
          · subst hj
            rw [List.getElem?_set]
            simp only [if_true]
            have hn : ∀ x, (L2.wipe τ vs)[u]? ≠ some (some x) := fun x e => (wipe_some e).2 hm
            split
            · rename_i hlt'
              rw [List.getElem?_eq_getElem hlt'] at hn ⊢
              cases e : (L2.wipe τ vs)[u] with
              | none => rfl
              | some z => exact absurd (by rw [e]) (hn z)
            · rename_i hge
              rw [List.getElem?_eq_none (by omega)]
          · rw [List.getElem?_set_ne hj]
      exact aux ws ws fun v h => h
    · refine ⟨σ4, G2, N2, _, r4, s3.rel, h4, fun b G5 N5 H5 h5 s5 => ?_⟩
      obtain ⟨hp3, gp3, _⟩ := s3.fr p _ hp2 gp2
      obtain ⟨hp5, gp5, nn5⟩ := s5.fr p _ hp3 gp3
      have s25 := (s2.trans s3).trans s5
      cases b with
      | false =>
        rw [if_neg Bool.false_ne_true]
        exact ⟨acc, vacc, G5, N5, hp5, (ra2.le s3.kp).le s5.kp, by omega, gp5, nn5 nn2, s25, h5⟩
      | true =>
        rw [if_pos rfl]
        refine ⟨σ4, G5, N5, _, r4.le s5.kp, s5.rel, h5, fun d G6 N6 v6 H6 h6 s6 r6 => ?_⟩
        obtain ⟨hp6, gp6, nn6⟩ := s6.fr p _ hp5 gp5
        have s26 := s25.trans s6
        have ra6 := ((ra2.le s3.kp).le s5.kp).le s6.kp
        have kw := Kp.write (u := .lst (vacc ++ [v6])) (nn6 (nn5 nn2)) hp6 rfl rfl
        have hl6 := ra6.length
        refine ⟨vacc, hp6, by omega, acc ++ [d], vacc ++ [v6], G6, N6, upd_same, (RDs.append ra6 (RDs.cons r6 RDs.nil)).le kw, by simp; omega, gp6, nn6 (nn5 nn2), s26.poke np hp6 gp6 (nn6 (nn5 nn2)) rfl rfl, h6⟩
  · have e : i = xs.length := by omega
    subst e
    rw [List.drop_length] at h2
    refine .inl ⟨y.stop _ H2 N2 G2 s2 h2.1 rfl, ?_⟩
    have h3 : newL mk acc G2 R := h2.2
    cases mk with
    | true =>
      refine q1 (.ref p) (gup G2 p (.lst acc)) N2 _ _ (h3 p gp2) (s2.know np nn2 ⟨vacc, hp2, ra2⟩) (RD.ref p)
    | false =>
      exact q1 (.lst acc) G2 (ndel N2 p) _ _ h3 (s2.calm (.inl np) gp2) (RD.lst (.inl ⟨hp2, fun z => z.1 rfl⟩) (ra2.le Kp.calm))
section
variable {X : Cx}
theorem qe_lc (mk : Bool) {elt tg iter : Expr} {ifs : List Expr} {scope : Scope} {own : List (Str × Nat)} {pos : Pos} {ti : DI} {vg : TG} {g : DG} {tt : DT} {te : DE} (hc : X.calm = true) (hN : X.N.Nodup) (hi : QI X tg iter ti) (ok : BlkOk X.N X.env.scope scope own)
    (hg : ∀ (s : Shared) (H : Hp) (C : Addr) (cl : List (Str × Addr)) (fp : List Addr), PG (X.blk s H scope (compEnvC scope cl C X.env) fp) tg vg) (tgo : TgOk X.K vg g (own.map (·.2)))
    (ht : ∀ (s : Shared) (H : Hp) (C : Addr) (cl : List (Str × Addr)) (fp : List Addr), QTs (X.blk s H scope (compEnvC scope cl C X.env) fp) ifs tt)
    (he : ∀ (s : Shared) (H : Hp) (C : Addr) (cl : List (Str × Addr)) (fp : List Addr), QE (X.blk s H scope (compEnvC scope cl C X.env) fp) elt te) (hs : ∀ x, foldedSetIterable iter X.env x = pure x := by intro _; rfl) :
    QE X (.ListComp elt [⟨tg, iter, ifs, 0⟩] scope pos) (dLc mk ti g tt te (own.map (·.2))) :=
  pe_mono (pe_lc (wi := upI X.K ti) (tt := upT X.K tt) (te := up X.K te) hc hN hi ok hg ht he hs) fun τ H Q h => up_lc tgo h
theorem qs_setLc (mk : Bool) {i : Nat} {y : Str} {py : Pos} {elt tg iter : Expr} {ifs : List Expr} {scope : Scope} {own : List (Str × Nat)} {pos spos : Pos} {ti : DI} {vg : TG} {g : DG} {tt : DT} {te : DE} (hc : X.calm = true) (hN : X.N.Nodup) (hy : X.N[i]? = some y) (hyl : X.env.scope.names.lookup y = some .local)
    (hsw : swapsWith (.ListComp elt [⟨tg, iter, ifs, 0⟩] scope pos) (some (.Name y py)) spos.line X.env = pure true) (hi : QI X tg iter ti) (ok : BlkOk X.N X.env.scope scope own)
    (hg : ∀ (s : Shared) (H : Hp) (C : Addr) (cl : List (Str × Addr)) (fp : List Addr), PG (X.blk s H scope (compEnvC scope cl C X.env) fp) tg vg) (tgo : TgOk X.K vg g (own.map (·.2)))
    (ht : ∀ (s : Shared) (H : Hp) (C : Addr) (cl : List (Str × Addr)) (fp : List Addr), QTs (X.blk s H scope (compEnvC scope cl C X.env) fp) ifs tt)
    (he : ∀ (s : Shared) (H : Hp) (C : Addr) (cl : List (Str × Addr)) (fp : List Addr), QE (X.blk s H scope (compEnvC scope cl C X.env) fp) elt te) (hs : ∀ x, foldedSetIterable iter X.env x = pure x := by intro _; rfl) :
    QS X (.Assign [.Name y py] (.ListComp elt [⟨tg, iter, ifs, 0⟩] scope pos) spos) (dAsg (dLc mk ti g tt te (own.map (·.2))) (dName i)) :=
  ps_mono (ps_setLc (wi := upI X.K ti) (tt := upT X.K tt) (te := up X.K te) hc hN hy hyl hsw hi ok hg ht he hs) fun D τ H h => by
    obtain ⟨σ, G, N, E, hs, hg, ht, q⟩ := h
    refine up_lc tgo ⟨σ, G, N, _, hs, hg, ht, fun d G' N' v H' h s' r => ?_⟩
    exact q.nx _ _ _ _ _ h s' ((hs.le s'.kp).set r i)
end
/-! ### defs -/
abbrev DSp := List D → Gp → DK → Prop
def upSp (K : PySem.W.Frag) (sp : DSp) : Sp := fun vs H Q _ => ∃ ds G N R, RDs K H N ds vs ∧ RelG K H N G ∧ sp ds G R ∧ UpQ K H N G R Q
/-- the def at f keeps the promise sp, by data; no exception leaves it -/
def FnD (P : Program) (w : World) (K : PySem.W.Frag) (mg : Str → Option Value) (base : Heap) (k : Nat) (f : Addr) (fd : FuncData) (ps : List Str) (sp : DSp) : Prop := FnOk P w K mg base CX0 k f fd ps (upSp K sp)
theorem FnD.mono {P : Program} {w : World} {K : PySem.W.Frag} {mg : Str → Option Value} {base : Heap} {j k : Nat} {f : Addr} {fd : FuncData} {ps : List Str} {sp : DSp} (F : FnD P w K mg base j f fd ps sp) (h : j ≤ k) : FnD P w K mg base k f fd ps sp := FnOk.mono F h
theorem FnD.imp {P : Program} {w : World} {K : PySem.W.Frag} {mg : Str → Option Value} {base : Heap} {k : Nat} {f : Addr} {fd : FuncData} {ps : List Str} {sp sp' : DSp} (F : FnD P w K mg base k f fd ps sp) (h : ∀ ds G R, sp' ds G R → sp ds G R) : FnD P w K mg base k f fd ps sp' :=
  FnOk.imp F fun vs H Q E ⟨ds, G, N, R, r1, r2, h1, q⟩ => ⟨ds, G, N, R, r1, r2, h ds G R h1, q⟩
def startD (n : Nat) (ds : List D) : Sd := ds.map some ++ List.replicate (n - ds.length) none
theorem RSt.begin {K : PySem.W.Frag} {H : Hp} {N : Ns} {M : List Str} {ds : List D} {vs : List V} (r : RDs K H N ds vs) : RSt K H N (startD M.length ds) (start M vs) := by
  have hl := r.length
  refine ⟨by unfold startD L2.start; simp; omega, fun i d e => ?_⟩
  unfold startD at e
  by_cases hi : i < ds.length
  · rw [List.getElem?_append_left (by simpa using hi), List.getElem?_map, List.getElem?_eq_getElem hi] at e
    have e' : ds[i] = d := by simpa using e
    obtain ⟨v, h1, h2⟩ := r.get (List.getElem?_eq_getElem hi)
    refine ⟨v, ?_, by rw [← e']; exact h2⟩
    unfold L2.start
    rw [List.getElem?_append_left (by rw [List.length_map]; omega), List.getElem?_map, h1] <;> rfl
  · rw [List.getElem?_append_right (by simpa using hi), List.getElem?_replicate] at e
    split at e
    · cases e
    · cases e
section
variable {P : Program} {w : World} {K : PySem.W.Frag} {mg : Str → Option Value} {base : Heap}
theorem fun_okD {x qual : Str} {st : Stmt} {f : Addr} {fd : FuncData} {M ps : List Str} {k : Nat} {sp : DSp} (F : Fun K x qual st f fd) (S : FnScope M ps (defScope st)) (len : ∀ ds G R, sp ds G R → ds.length = ps.length)
    (hbody : ∀ (cdv : Value) (A : Around) (outer : List Env) (s : Shared) (H : Hp), Room k (A.deeper (envOfC qual (defScope st) s.heap.objs.size f cdv)) →
      ∃ t, QSs (cxOf CX0 P w K mg base M qual (defScope st) f cdv A outer s H E0).nox (defBody st) t ∧ ∀ (ds : List D) (G : Gp) (R : DK), sp ds G R → t { nx := fun _ G1 => ∃ G', Sub G' G1 ∧ R .non G', rt := R } (startD M.length ds) G) : FnD P w K mg base (k + 1) f fd ps sp := by
  refine F.ok S (fun vs H Q E h => ?_) (fun cdv A outer s H vs Q E hr h => ?_)
  · obtain ⟨ds, G, N, R, r1, _, h1, _⟩ := h
    rw [← r1.length]; exact len ds G R h1
  · obtain ⟨ds, G, N, R, r1, r2, h1, q⟩ := h
    obtain ⟨t, ht, hq⟩ := hbody cdv A outer s H hr
    refine ⟨upS K t, ht, startD M.length ds, G, N, _, RSt.begin r1, r2, hq ds G R h1, ⟨fun σ' G' N' τ' H' h s' r => ?_, q, fun _ _ _ _ _ h => h.elim, fun _ _ _ _ _ h => h.elim⟩⟩
    obtain ⟨G2, sb, h⟩ := h
    exact q _ _ _ _ _ h (s'.trans (s'.rel.sub sb)) RD.non
end
section
variable {X : Cx} {k : Nat} {f : Addr} {fd : FuncData} {ps : List Str} {sp : DSp} {x : Str} {p pos : Pos} {e : Expr} {es : List Expr} {t : DA}
def dCall (sp : DSp) (t : DA) : DE := fun σ G R => t σ G fun ds G1 => sp ds G1 R
theorem up_call {K : PySem.W.Frag} {τ : L2.St} {H : Hp} {Q : VK} (h : up K (dCall sp t) τ H Q) : tCall (upSp K sp) [] E0 (upA K t) τ H Q := by
  obtain ⟨σ, G, N, R, hs, hg, ht, q⟩ := h
  refine ⟨σ, G, N, _, hs, hg, ht, fun ds G1 N1 vs H1 h1 s1 r1 => ?_⟩
  show upSp K sp (vs ++ []) H1 Q E0
  rw [List.append_nil]
  exact ⟨ds, G1, N1, R, r1, s1.rel, h1, q.le s1⟩
theorem qe_call (F : FnD X.prog X.w X.K X.mg X.base k f fd ps sp) (hr : Room k X.A) (hg : Gl X x) (hm : X.mg x = some (.ref f)) (hk : PySem.W.keepIn X.K (.ref f) = true) (hb : Binds X.K fd ps []) (ha : QA X (e :: es) t)
    (hdb : (x == ("__debug__" : Str)) = false := by decide) (he : starEach (e :: es) X.env = (false, eval e X.env) :: starEach es X.env := by rfl) (hpl : (backTo pos (starEach es X.env)).any (·.1) = false := by rfl) :
    QE X (.Call (.Name x p) (e :: es) [] pos) (dCall sp t) := pe_mono (pe_call F hr hg hm hk hb .nil pass0 ha hdb he hpl) fun τ H Q h => up_call h
theorem up_cb {K : PySem.W.Frag} {r : DRn} {τ : L2.St} {H : Hp} {Q : VK} (h : up K (dCallB r t) τ H Q) : tCB (upRn K r) (upA K t) τ H Q := by
  obtain ⟨σ, G, N, R, hs, hg, ht, q⟩ := h
  refine ⟨σ, G, N, _, hs, hg, ht, fun ds G1 N1 vs H1 h1 s1 r1 => ?_⟩
  exact ⟨ds, G1, N1, R, r1, s1.rel, h1, q.le s1⟩
theorem qe_callB {id : String} {r : DRn} (hc : CallD X (.builtin id) r) (hg : Gl X x) (hm : X.mg x = none) (hv : bootBuiltins x = some (.builtin id)) (ha : QA X (e :: es) t) (hn : x ≠ "__name__" := by decide) (hdb : (x == ("__debug__" : Str)) = false := by decide)
    (he : starEach (e :: es) X.env = (false, eval e X.env) :: starEach es X.env := by rfl) (hpl : (backTo pos (starEach es X.env)).any (·.1) = false := by rfl) : QE X (.Call (.Name x p) (e :: es) [] pos) (dCallB r t) :=
  pe_mono (pe_callB hc hg hm hv ha hn hdb he hpl) fun τ H Q h => up_cb h
theorem qe_callTy {id : String} {r : DRn} (hc : CallD X (.type id) r) (hg : Gl X x) (hm : X.mg x = none) (hv : bootBuiltins x = some (.type id)) (ha : QA X (e :: es) t) (hn : x ≠ "__name__" := by decide) (hdb : (x == ("__debug__" : Str)) = false := by decide)
    (he : starEach (e :: es) X.env = (false, eval e X.env) :: starEach es X.env := by rfl) (hpl : (backTo pos (starEach es X.env)).any (·.1) = false := by rfl) : QE X (.Call (.Name x p) (e :: es) [] pos) (dCallB r t) :=
  pe_mono (pe_callTy hc hg hm hv ha hn hdb he hpl) fun τ H Q h => up_cb h
end
end DL

set_option Elab.async false
set_option linter.all false
set_option maxRecDepth 100000
set_option maxHeartbeats 4000000
set_option autoImplicit false
namespace DL
open PySem PySem.Spec PyProof.Rows L2

/-! ### lists by data -/
def lstOf (G : Gp) : D → Option (List D)
  | .lst ds => some ds
  | .ref a => match G a with | some (.lst ds) => some ds | _ => none
  | _ => none
theorem lstOf_ok {K : PySem.W.Frag} {H : Hp} {N : Ns} {G : Gp} {d : D} {v : V} {ds : List D} (rg : RelG K H N G) (rd : RD K H N d v) (h : lstOf G d = some ds) : ∃ p vs, v = .ref p ∧ SqL K H p vs ∧ RDs K H N ds vs := by
  cases d with
  | lst es =>
    obtain ⟨p, vs, rfl, l, r⟩ := rd.of_lst
    cases h
    exact ⟨p, vs, rfl, l.sq, r⟩
  | ref a =>
    obtain rfl := rd.of_ref
    unfold lstOf at h
    simp only at h
    split at h
    · rename_i es e
      cases h
      obtain ⟨_, vs, hv, r⟩ := rg a _ e
      exact ⟨a, vs, rfl, SqL.of hv, r⟩
    · cases h
  | _ => cases h
section
variable {X : Cx}
/-! ### list + list, whatever lists -/
def rCatL (K : PySem.W.Frag) : R2 := fun x y H Q => ∃ l b xs zs, x = .ref l ∧ y = .ref b ∧ SqL K H l xs ∧ SqL K H b zs ∧ xs.length + zs.length ≤ sizeLine ∧ ∀ p, H p = none → Q (.ref p) (upd H p (.lst (xs ++ zs)))
theorem op_catL : OpR X (binaryOp .Add) (rCatL X.K) := by
  intro pins s σ H x y v u Q I rx ry h
  obtain ⟨l, b, xs, zs, rfl, rfl, hH, hB, hz, q⟩ := h
  cases rx
  cases ry
  obtain ⟨its, r, pl, _⟩ := I.list hH
  obtain ⟨its2, r2, pl2, _⟩ := I.list hB
  obtain ⟨⟨cls, dd, data, sl⟩, ho, hc, n, hd⟩ := pl.isList
  obtain ⟨⟨cls2, dd2, data2, sl2⟩, ho2, hc2, n2, hd2⟩ := pl2.isList
  simp only at hc hd hc2 hd2
  subst hc hd hc2 hd2
  have hl := r.length
  have hl2 := r2.length
  have e : its.toArray ++ its2.toArray = (its ++ its2).toArray := by simp
  refine concat_meets ⟨_, ho, rfl⟩ ⟨_, ho2, rfl⟩ noFill_list_add seq_list_add PySem.F.slot_list_add PySem.F.entry_list_add (PySem.F.args_list_add_2 _ _) (list_addW l b its.toArray its2.toArray n n2 dd dd2 sl sl2 (by simp; omega)) ⟨ho, ho2, ?_⟩
  rw [e]
  exact ⟨.ref _, _, I.lnew (t' := s.toks) (r.append r2) (by rw [List.length_append]; omega), rfl, q _ I.fresh⟩
/-! ### arithmetic -/
theorem op_mulX : OpR X (binaryOp .Mult) (rI IntMulOk fun i j => .int (i * j)) := opI fun _ _ _ _ _ _ _ hc q => mul_int q hc
def CPowX (i j : Int) : Prop := 0 ≤ j ∧ (Builtin.Int.intBits i : Int) * j ≤ 2 ^ 27
theorem op_powX : OpR X (binaryOp .Pow) (rI CPowX fun i j => .int (i ^ j.toNat)) := opI fun _ _ _ _ _ _ _ hc q => pow_int hc.1 hc.2 q
def dAdd (mk : Bool) : DR2 := fun x y G R => match x, y with
  | .int i, .int j => R (.int (i + j)) G
  | .str a, .str b => a.length + b.length ≤ sizeLine ∧ R (.str (a ++ b)) G
  | .tup a, .tup b => a.length + b.length ≤ sizeLine ∧ R (.tup (a ++ b)) G
  | x, y => match lstOf G x, lstOf G y with | some a, some b => a.length + b.length ≤ sizeLine ∧ newL mk (a ++ b) G R | _, _ => False
theorem od_add (mk : Bool) : OpD X (binaryOp .Add) (dAdd mk) := opr_mono (op_add.or (op_add_str.or (op_catA.or op_catL))) fun x y H Q h => by
  obtain ⟨c, d, G, N, R, r1, r2, rg, h, q⟩ := h
  unfold dAdd at h
  split at h
  · rename_i i j
    obtain rfl := r1.of_int
    obtain rfl := r2.of_int
    exact .inl ⟨i, j, rfl, rfl, q.at rg h (RD.int _)⟩
  · rename_i i j
    obtain rfl := r1.of_str
    obtain rfl := r2.of_str
    exact .inr (.inl ⟨i, j, rfl, rfl, h.1, q.at rg h.2 (RD.str _)⟩)
  · rename_i a b
    obtain ⟨p, vs, rfl, s1, d1⟩ := r1.of_tup
    obtain ⟨p2, vs2, rfl, s2, d2⟩ := r2.of_tup
    have l1 := d1.length
    have l2 := d2.length
    refine .inr (.inr (.inl ⟨p, p2, vs, vs2, rfl, rfl, s1, s2, by omega, fun e => ?_, fun e e2 => ?_, fun e e2 p np => ?_⟩))
    · subst e
      have e3 : a = [] := List.eq_nil_of_length_eq_zero (by simpa using l1)
      subst e3
      exact q.at rg h.2 (RD.tup s2 d2)
    · subst e2
      have e3 : b = [] := List.eq_nil_of_length_eq_zero (by simpa using l2)
      subst e3
      rw [List.append_nil] at h
      exact q.at rg h.2 (RD.tup s1 d1)
    · exact newT_ok rg (d1.append d2) h.2 q np
  · split at h
    · rename_i a b ea eb
      obtain ⟨p, vs, rfl, s1, d1⟩ := lstOf_ok rg r1 ea
      obtain ⟨p2, vs2, rfl, s2, d2⟩ := lstOf_ok rg r2 eb
      have l1 := d1.length
      have l2 := d2.length
      exact .inr (.inr (.inr ⟨p, p2, vs, vs2, rfl, rfl, s1, s2, by omega, fun p np => newL_ok rg (d1.append d2) h.2 q np⟩))
    · exact h.elim
/-- two ints, under C -/
def dI (C : Int → Int → Prop) (g : Int → Int → D) : DR2 := fun x y G R => match x, y with | .int i, .int j => C i j ∧ R (g i j) G | _, _ => False
def dI0 (g : Int → Int → D) : DR2 := fun x y G R => match x, y with | .int i, .int j => R (g i j) G | _, _ => False
theorem od_I {f : Value → Value → Sem Value} {C : Int → Int → Prop} {g : Int → Int → Int} (h : OpR X f (rI C fun i j => .int (g i j))) : OpD X f (dI C fun i j => .int (g i j)) := opr_mono h fun x y H Q h => by
  obtain ⟨c, d, G, N, R, r1, r2, rg, h, q⟩ := h
  unfold dI at h
  split at h
  · obtain rfl := r1.of_int
    obtain rfl := r2.of_int
    exact ⟨_, _, rfl, rfl, h.1, q.at rg h.2 (RD.int _)⟩
  · exact h.elim
theorem od_I0 {f : Value → Value → Sem Value} {g : Int → Int → Int} (h : OpR X f (rI0 fun i j => .int (g i j))) : OpD X f (dI0 fun i j => .int (g i j)) := opr_mono h fun x y H Q h => by
  obtain ⟨c, d, G, N, R, r1, r2, rg, h, q⟩ := h
  unfold dI0 at h
  split at h
  · obtain rfl := r1.of_int
    obtain rfl := r2.of_int
    exact ⟨_, _, rfl, rfl, q.at rg h (RD.int _)⟩
  · exact h.elim
def dMinus : DR2 := dI0 fun i j => .int (i - j)
def dMul : DR2 := dI IntMulOk fun i j => .int (i * j)
def dFdiv : DR2 := dI CDivW fun i j => .int (i / j)
def dMod : DR2 := dI (fun _ j => 0 < j) fun i j => .int (i % j)
def dPow : DR2 := dI CPowX fun i j => .int (i ^ j.toNat)
def dShl : DR2 := dI CShl fun i j => .int (i * 2 ^ j.toNat)
theorem od_sub : OpD X (binaryOp .Sub) dMinus := od_I0 op_sub
theorem od_mul : OpD X (binaryOp .Mult) dMul := od_I op_mulX
theorem od_fdiv : OpD X (binaryOp .FloorDiv) dFdiv := od_I op_fdivW
theorem od_mod : OpD X (binaryOp .Mod) dMod := od_I op_mod
theorem od_pow : OpD X (binaryOp .Pow) dPow := od_I op_powX
theorem od_shl : OpD X (binaryOp .LShift) dShl := od_I op_shlW
/-- += of ints, texts -/
def dIadd : DR2 := fun x y G R => match x, y with
  | .int i, .int j => R (.int (i + j)) G
  | .str a, .str b => a.length + b.length ≤ sizeLine ∧ R (.str (a ++ b)) G
  | _, _ => False
theorem od_iadd : OpD X (inplaceOp .Add) dIadd := opr_mono (iop_add.or iop_add_str) fun x y H Q h => by
  obtain ⟨c, d, G, N, R, r1, r2, rg, h, q⟩ := h
  unfold dIadd at h
  split at h
  · obtain rfl := r1.of_int
    obtain rfl := r2.of_int
    exact .inl ⟨_, _, rfl, rfl, q.at rg h (RD.int _)⟩
  · obtain rfl := r1.of_str
    obtain rfl := r2.of_str
    exact .inr ⟨_, _, rfl, rfl, h.1, q.at rg h.2 (RD.str _)⟩
  · exact h.elim
def dNeg : DR1 := fun x G R => match x with | .int i => R (.int (-i)) G | _ => False
theorem od_neg : UnD X (unaryOp .USub) dNeg := unr_mono un_neg fun x H Q h => by
  obtain ⟨c, G, N, R, r1, rg, h, q⟩ := h
  unfold dNeg at h
  split at h
  · obtain rfl := r1.of_int
    exact ⟨_, rfl, q.at rg h (RD.int _)⟩
  · exact h.elim
/-! ### comparisons -/
/-- the order of ints and of texts -/
def dOrd (pi : Int → Int → Bool) (ps : Str → Str → Bool) : DR2 := fun x y G R => match x, y with
  | .int i, .int j => R (.bl (pi i j)) G
  | .str a, .str b => R (.bl (ps a b)) G
  | _, _ => False
theorem od_ord {f : Value → Value → Sem Value} {pi : Int → Int → Bool} {ps : Str → Str → Bool} (h1 : OpR X f (rI0 fun i j => .bl (pi i j))) (h2 : OpR X f (fun x y H Q => ∃ i j, x = .str i ∧ y = .str j ∧ Q (.bl (ps i j)) H)) : OpD X f (dOrd pi ps) := opr_mono (h1.or h2) fun x y H Q h => by
  obtain ⟨c, d, G, N, R, r1, r2, rg, h, q⟩ := h
  unfold dOrd at h
  split at h
  · obtain rfl := r1.of_int
    obtain rfl := r2.of_int
    exact .inl ⟨_, _, rfl, rfl, q.at rg h (RD.bl _)⟩
  · obtain rfl := r1.of_str
    obtain rfl := r2.of_str
    exact .inr ⟨_, _, rfl, rfl, q.at rg h (RD.bl _)⟩
  · exact h.elim
def sLt (a b : Str) : Bool := decide (a.cps.toList < b.cps.toList)
def dLt : DR2 := dOrd (fun i j => decide (i < j)) fun a b => sLt a b
def dLe : DR2 := dOrd (fun i j => decide (i ≤ j)) fun a b => !sLt b a
def dGt : DR2 := dOrd (fun i j => decide (j < i)) fun a b => sLt b a
def dGe : DR2 := dOrd (fun i j => decide (j ≤ i)) fun a b => !sLt a b
theorem od_lt : OpD X (compareOp .Lt) dLt := od_ord op_lt op_lt_str
theorem od_le : OpD X (compareOp .LtE) dLe := od_ord op_le op_le_str
theorem od_gt : OpD X (compareOp .Gt) dGt := od_ord op_gt op_gt_str
mutual
def toPy : D → Option PyData
  | .non => some .none
  | .bl b => some (.bool b)
  | .int i => some (.int i)
  | .str x => some (.str x)
  | .tup ds => (toPys ds).map .tuple
  | .lst ds => (toPys ds).map .list
  | _ => none
def toPys : List D → Option (List PyData)
  | [] => some []
  | d :: ds => match toPy d, toPys ds with | some a, some b => some (a :: b) | _, _ => none
end
mutual
theorem toPy_ok {K : PySem.W.Frag} {H : Hp} {N : Ns} : ∀ {d : D} {v : V} {a : PyData}, RD K H N d v → toPy d = some a → Dp K H v a
  | .non, _, _, r, h => by simp only [toPy] at h; cases h; rw [r.of_non]; exact .non
  | .bl b, _, _, r, h => by simp only [toPy] at h; cases h; rw [r.of_bl]; exact .bl b
  | .int b, _, _, r, h => by simp only [toPy] at h; cases h; rw [r.of_int]; exact .int b
  | .str b, _, _, r, h => by simp only [toPy] at h; cases h; rw [r.of_str]; exact .str b
  | .tup ds, _, _, r, h => by
    simp only [toPy] at h
    obtain ⟨p, vs, rfl, s, q⟩ := r.of_tup
    cases e : toPys ds with
    | none => rw [e] at h; cases h
    | some as => rw [e] at h; cases h; exact .tup s (toPys_ok q e)
  | .lst ds, _, _, r, h => by
    simp only [toPy] at h
    obtain ⟨p, vs, rfl, s, q⟩ := r.of_lst
    cases e : toPys ds with
    | none => rw [e] at h; cases h
    | some as => rw [e] at h; cases h; exact .lst s.sq (toPys_ok q e)
  | .nt _, _, _, r, h => by simp only [toPy] at h; cases h
  | .ty _, _, _, r, h => by simp only [toPy] at h; cases h
  | .ref _, _, _, r, h => by simp only [toPy] at h; cases h
  | .any _, _, _, r, h => by simp only [toPy] at h; cases h
theorem toPys_ok {K : PySem.W.Frag} {H : Hp} {N : Ns} : ∀ {ds : List D} {vs : List V} {as : List PyData}, RDs K H N ds vs → toPys ds = some as → DpAll K H vs as
  | [], _, _, r, h => by simp only [toPys] at h; cases h; rw [r.of_nil]; exact .nil
  | d :: ds, _, _, r, h => by
    obtain ⟨v, vs, rfl, r1, r2⟩ := r.of_cons
    simp only [toPys] at h
    split at h
    · rename_i a b ea eb
      cases h
      exact .cons (toPy_ok r1 ea) (toPys_ok r2 eb)
    · cases h
end
def gPy (G : Gp) (d : D) : Option PyData := match d with
  | .ref a => match G a with | some (.lst ds) => (toPys ds).map .list | _ => none
  | d => toPy d
theorem gPy_ok {K : PySem.W.Frag} {H : Hp} {N : Ns} {G : Gp} {d : D} {v : V} {a : PyData} (rg : RelG K H N G) (r : RD K H N d v) (h : gPy G d = some a) : Dp K H v a := by
  unfold gPy at h
  split at h
  · rename_i p
    split at h
    · rename_i ds e
      obtain ⟨_, vs, hv, rd⟩ := rg p _ e
      rw [r.of_ref]
      cases e2 : toPys ds with
      | none => rw [e2] at h; cases h
      | some as => rw [e2] at h; cases h; exact .lst (SqL.of hv) (toPys_ok rd e2)
    · cases h
  · exact toPy_ok r h
/-- ==, as a bool of the answer -/
def dEqW (f : Bool → Bool) : DR2 := fun x y G R => match x, y with
  | .int i, .int j => R (.bl (f (decide (i = j)))) G
  | .str i, .str j => R (.bl (f (decide (i = j)))) G
  | .bl i, .bl j => R (.bl (f (decide (i = j)))) G
  | .non, .non => R (.bl (f true)) G
  | x, y => match gPy G x, gPy G y with | some a, some b => SeqAt.shaped a = true ∧ SeqAt.shaped b = true ∧ R (.bl (f (PyData.eqv a b))) G | _, _ => False
theorem dec_int' {i j : Int} : decide (V.int i = V.int j) = decide (i = j) := by rw [Bool.eq_iff_iff]; simp
theorem dec_str' {i j : Str} : decide (V.str i = V.str j) = decide (i = j) := by rw [Bool.eq_iff_iff]; simp
theorem dec_bl' {i j : Bool} : decide (V.bl i = V.bl j) = decide (i = j) := by rw [Bool.eq_iff_iff]; simp
theorem od_eqW {f : Value → Value → Sem Value} {g : Bool → Bool} {H0 : Prop} (h1 : OpR X f (fun x y H Q => scal x y = true ∧ Q (.bl (g (decide (x = y)))) H))
    (h2 : OpR X f (fun x y H Q => ∃ d e, Dp X.K H x d ∧ Dp X.K H y e ∧ SeqAt.shaped d = true ∧ SeqAt.shaped e = true ∧ Q (.bl (g (PyData.eqv d e))) H)) : OpD X f (dEqW g) := opr_mono (h1.or h2) fun x y H Q h => by
  obtain ⟨c, d, G, N, R, r1, r2, rg, h, q⟩ := h
  unfold dEqW at h
  split at h
  · obtain rfl := r1.of_int
    obtain rfl := r2.of_int
    exact .inl ⟨rfl, by rw [dec_int']; exact q.at rg h (RD.bl _)⟩
  · obtain rfl := r1.of_str
    obtain rfl := r2.of_str
    exact .inl ⟨rfl, by rw [dec_str']; exact q.at rg h (RD.bl _)⟩
  · obtain rfl := r1.of_bl
    obtain rfl := r2.of_bl
    exact .inl ⟨rfl, by rw [dec_bl']; exact q.at rg h (RD.bl _)⟩
  · obtain rfl := r1.of_non
    obtain rfl := r2.of_non
    exact .inl ⟨rfl, by simpa using q.at rg h (RD.bl _)⟩
  · split at h
    · rename_i a b ea eb
      exact .inr ⟨a, b, gPy_ok rg r1 ea, gPy_ok rg r2 eb, h.1, h.2.1, q.at rg h.2.2 (RD.bl _)⟩
    · exact h.elim
def dEq : DR2 := dEqW id
def dNe : DR2 := dEqW not
theorem od_eq (hu : X.A.units + 64 < cLine) : OpD X (compareOp .Eq) dEq := od_eqW (H0 := True) (opr_mono op_eq fun _ _ _ _ h => h) (opr_mono (op_eqD hu) fun _ _ _ _ h => h)
theorem od_ne (hu : X.A.units + 64 < cLine) : OpD X (compareOp .NotEq) dNe := od_eqW (H0 := True) (opr_mono op_ne fun _ _ _ _ h => h) (opr_mono (op_neD hu) fun _ _ _ _ h => h)
/-- is None -/
def isNon : D → Bool | .non => true | _ => false
theorem isNon_ok {K : PySem.W.Frag} {H : Hp} {N : Ns} {d : D} {v : V} (r : RD K H N d v) : decide (v = .non) = isNon d := by
  cases d with
  | non => rw [r.of_non] <;> rfl
  | bl b => rw [r.of_bl] <;> rfl
  | int b => rw [r.of_int] <;> rfl
  | str b => rw [r.of_str] <;> rfl
  | ty b => rw [r.of_ty] <;> rfl
  | ref b => rw [r.of_ref] <;> rfl
  | any b => obtain ⟨a, u, rfl, _⟩ := r.of_any; rfl
  | nt b => obtain ⟨a, rfl, _⟩ := r.of_nt; rfl
  | tup b => obtain ⟨a, u, rfl, _⟩ := r.of_tup; rfl
  | lst b => obtain ⟨a, u, rfl, _⟩ := r.of_lst; rfl
def dIs : DR2 := fun x y G R => match y with | .non => R (.bl (isNon x)) G | _ => False
def dIsNot : DR2 := fun x y G R => match y with | .non => R (.bl (!isNon x)) G | _ => False
theorem od_is : OpD X (compareOp .Is) dIs := opr_mono op_isN fun x y H Q h => by
  obtain ⟨c, d, G, N, R, r1, r2, rg, h, q⟩ := h
  unfold dIs at h
  split at h
  · exact ⟨r2.of_non, by rw [isNon_ok r1]; exact q.at rg h (RD.bl _)⟩
  · exact h.elim
/-! ### in -/
def flatD : D → Bool
  | .non => true | .bl _ => true | .int _ => true | .str _ => true | _ => false
def eqF : D → D → Bool
  | .non, .non => true
  | .bl a, .bl b => a == b
  | .bl a, .int b => (if a then 1 else 0) == b
  | .int a, .bl b => a == (if b then 1 else 0)
  | .int a, .int b => a == b
  | .str a, .str b => a == b
  | _, _ => false
def flatTo : D → V
  | .bl b => .bl b | .int b => .int b | .str b => .str b | _ => .non
theorem flat_ok {K : PySem.W.Frag} {H : Hp} {N : Ns} {d : D} {v : V} (r : RD K H N d v) (f : flatD d = true) : v = flatTo d := by
  cases d with
  | non => exact r.of_non
  | bl b => exact r.of_bl
  | int b => exact r.of_int
  | str b => exact r.of_str
  | _ => cases f
theorem flats_ok {K : PySem.W.Frag} {H : Hp} {N : Ns} : ∀ {ds : List D} {vs : List V}, RDs K H N ds vs → ds.all flatD = true → vs = ds.map flatTo
  | [], _, r, _ => r.of_nil
  | d :: ds, _, r, f => by
    obtain ⟨v, vs, rfl, r1, r2⟩ := r.of_cons
    simp only [List.all_cons, Bool.and_eq_true] at f
    rw [flat_ok r1 f.1, flats_ok r2 f.2] <;> rfl
theorem flatV_to {d : D} (f : flatD d = true) : flatV (flatTo d) = true := by cases d <;> rfl
theorem eqV_to {c d : D} (f : flatD c = true) (g : flatD d = true) : eqV (flatTo c) (flatTo d) = eqF c d := by
  cases c <;> cases d <;> first | rfl | (simp [flatD] at f; done) | (simp [flatD] at g; done)
def inF (x : D) (ds : List D) : Bool := ds.any fun y => eqF y x
theorem inV_to {x : D} (f : flatD x = true) : ∀ {ds : List D}, ds.all flatD = true → inV (flatTo x) (ds.map flatTo) = inF x ds
  | [], _ => rfl
  | d :: ds, h => by
    simp only [List.all_cons, Bool.and_eq_true] at h
    have ih := inV_to f h.2
    unfold inV inF at ih ⊢
    rw [List.map_cons, List.any_cons, List.any_cons, eqV_to h.1 f, ih]
theorem flatsV_to : ∀ {ds : List D}, ds.all flatD = true → (ds.map flatTo).all flatV = true
  | [], _ => rfl
  | d :: ds, h => by
    simp only [List.all_cons, Bool.and_eq_true] at h
    rw [List.map_cons, List.all_cons, flatV_to h.1, flatsV_to h.2] <;> rfl
/-- the things of a list or tuple -/
def seqOf (G : Gp) : D → Option (List D)
  | .tup ds => some ds
  | .nt zs => some (zs.map .str)
  | d => lstOf G d
theorem seqOf_ok {K : PySem.W.Frag} {H : Hp} {N : Ns} {G : Gp} {d : D} {v : V} {ds : List D} (rg : RelG K H N G) (rd : RD K H N d v) (h : seqOf G d = some ds) : ∃ p vs, v = .ref p ∧ (SqL K H p vs ∨ SqT K H p vs) ∧ RDs K H N ds vs := by
  unfold seqOf at h
  split at h
  · cases h
    obtain ⟨p, vs, rfl, s, r⟩ := rd.of_tup
    exact ⟨p, vs, rfl, .inr s, r⟩
  · rename_i zs
    cases h
    obtain ⟨p, rfl, s⟩ := rd.of_nt
    exact ⟨p, _, rfl, .inr s.sq, RDs.strs zs⟩
  · obtain ⟨p, vs, rfl, s, r⟩ := lstOf_ok rg rd h
    exact ⟨p, vs, rfl, .inl s, r⟩
def strIn (a b : Str) : Bool := !(Builtin.Str.occurrences b a 0 b.length 1).isEmpty
def dInW (f : Bool → Bool) : DR2 := fun x y G R => match x, y with
  | .str a, .str b => match a.cps.toList with | [c] => R (.bl (f (decide (c ∈ b.cps.toList)))) G | _ => R (.bl (f (strIn a b))) G
  | x, y => match seqOf G y with | some ds => flatD x = true ∧ ds.all flatD = true ∧ R (.bl (f (inF x ds))) G | none => False
theorem str_one {a : Str} {c : Nat} (h : a.cps.toList = [c]) : a = ⟨#[c]⟩ := by
  cases a with
  | mk cps => simp only at h; congr 1; apply Array.toList_inj.mp; simpa using h
theorem od_inW {f : Value → Value → Sem Value} {g : Bool → Bool} (h1 : OpR X f (fun x y H Q => ∃ (c : Nat) (z : Str), x = .str ⟨#[c]⟩ ∧ y = .str z ∧ Q (.bl (g (decide (c ∈ z.cps.toList)))) H))
    (h2 : OpR X f (fun x y H Q => ∃ i j, x = .str i ∧ y = .str j ∧ Q (.bl (g (!(Builtin.Str.occurrences j i 0 j.length 1).isEmpty))) H))
    (h3 : OpR X f (fun x y H Q => ∃ p xs, y = .ref p ∧ (SqL X.K H p xs ∨ SqT X.K H p xs) ∧ flatV x = true ∧ xs.all flatV = true ∧ Q (.bl (g (inV x xs))) H)) : OpD X f (dInW g) := opr_mono (h1.or (h2.or h3)) fun x y H Q h => by
  obtain ⟨c, d, G, N, R, r1, r2, rg, h, q⟩ := h
  unfold dInW at h
  split at h
  · rename_i a b
    obtain rfl := r1.of_str
    obtain rfl := r2.of_str
    split at h
    · rename_i c e
      exact .inl ⟨c, b, by rw [str_one e], rfl, q.at rg h (RD.bl _)⟩
    · exact .inr (.inl ⟨a, b, rfl, rfl, q.at rg h (RD.bl _)⟩)
  · split at h
    · rename_i ds e
      obtain ⟨p, vs, rfl, s, r⟩ := seqOf_ok rg r2 e
      have e1 := flat_ok r1 h.1
      have e2 := flats_ok r h.2.1
      subst e1 e2
      refine .inr (.inr ⟨p, _, rfl, s, flatV_to h.1, flatsV_to h.2.1, ?_⟩)
      rw [inV_to h.1 h.2.1]
      exact q.at rg h.2.2 (RD.bl _)
    · exact h.elim
def dIn : DR2 := dInW id
theorem od_in : OpD X (compareOp .In) dIn := od_inW (opr_mono op_in_sign fun _ _ _ _ h => h) (opr_mono op_in_str fun _ _ _ _ h => h) (opr_mono op_in_seq fun _ _ _ _ h => by
  obtain ⟨p, xs, a, b, c, d, e⟩ := h
  exact ⟨p, xs, a, b, c, d, by simpa using e⟩)
/-! ### subscripts -/
def dIx : DR2 := fun x y G R => match x, y with
  | .str z, .int i => z.length ≤ sizeLine ∧ (match atI z.cps.toList i with | some c => R (.str ⟨#[c]⟩) G | none => False)
  | x, .int i => match seqOf G x with | some ds => (match atI ds i with | some d => R d G | none => False) | none => False
  | _, _ => False
theorem atI_rd {K : PySem.W.Frag} {H : Hp} {N : Ns} {ds : List D} {vs : List V} {i : Int} {d : D} (r : RDs K H N ds vs) (h : atI ds i = some d) : ∃ v, atI vs i = some v ∧ RD K H N d v := by
  unfold atI at h ⊢
  rw [← r.length]
  cases e : ixN ds.length i with
  | none => rw [e] at h; cases h
  | some j =>
    rw [e] at h
    obtain ⟨v, h1, h2⟩ := r.get (i := j) (d := d) h
    exact ⟨v, h1, h2⟩
theorem xd_ix : IxD X dIx := ixr_mono ix_seq fun x y H Q h => by
  obtain ⟨c, d, G, N, R, r1, r2, rg, h, q⟩ := h
  unfold dIx at h
  split at h
  · rename_i z i
    obtain rfl := r1.of_str
    obtain rfl := r2.of_int
    obtain ⟨hz, h⟩ := h
    split at h
    · rename_i c e
      exact .inr (.inr ⟨z, i, c, rfl, rfl, hz, e, q.at rg h (RD.str _)⟩)
    · exact h.elim
  · rename_i i _
    obtain rfl := r2.of_int
    split at h
    · rename_i ds e
      obtain ⟨p, vs, rfl, s, r⟩ := seqOf_ok rg r1 e
      split at h
      · rename_i d ed
        obtain ⟨v, hv, rv⟩ := atI_rd r ed
        rcases s with s | s
        · exact .inl ⟨p, vs, i, v, rfl, rfl, s, hv, q.at rg h rv⟩
        · exact .inr (.inl ⟨p, vs, i, v, rfl, rfl, s, hv, q.at rg h rv⟩)
      · exact h.elim
    · exact h.elim
  · exact h.elim
/-- a list's item stored -/
def dSetI : DSet := fun o i v G R => match o, i with
  | .ref a, .int k => match G a with | some (.lst ds) => (match ixN ds.length k with | some j => R (gup G a (.lst (ds.set j v))) | none => False) | _ => False
  | _, _ => False
theorem sd_set : SetD X dSetI := by
  intro pins s σ H o i v ov iv u Q I ro ri rv h
  refine set_list pins s σ H o i v ov iv u Q I ro ri rv ?_
  obtain ⟨c, d, e, G, N, R, r1, r2, r3, rg, h, q⟩ := h
  unfold dSetI at h
  split at h
  · rename_i a k
    obtain rfl := r1.of_ref
    obtain rfl := r2.of_int
    split at h
    · rename_i ds ea
      split at h
      · rename_i j ej
        obtain ⟨_, vs, hv, r⟩ := rg a _ ea
        refine ⟨a, vs, k, j, rfl, rfl, hv, by rw [← r.length]; exact ej, ?_⟩
        refine q _ N _ h (Stp.write (u := .lst (vs.set j v)) rg ea hv rfl rfl ⟨_, upd_same, ?_⟩)
        exact (RDs.set r3 j r).le (Kp.write (u := .lst (vs.set j v)) (rg a _ ea).1 hv rfl rfl)
      · exact h.elim
    · exact h.elim
  · exact h.elim
def dGetI : DR2 := fun x y G R => match x, y with
  | .ref a, .int i => (match G a with | some (.lst ds) => (match atI ds i with | some d => R d G | none => False) | _ => False)
  | _, _ => False
theorem gd_ix : GetD X dGetI := by
  intro pins s σ H o i ov iv Q I ro ri h
  obtain ⟨c, d, G, N, R, r1, r2, rg, h, q⟩ := h
  unfold dGetI at h
  split at h
  · rename_i a k
    obtain rfl := r1.of_ref
    obtain rfl := r2.of_int
    split at h
    · rename_i ds ea
      split at h
      · rename_i d ed
        obtain ⟨_, vs, hv, r⟩ := rg a _ ea
        obtain ⟨v, hv2, rv⟩ := atI_rd r ed
        cases ro
        obtain ⟨t, rfl⟩ := ri
        obtain ⟨its, rr, pl, hz⟩ := I.list (SqL.of hv)
        obtain ⟨j, h1, h2, h3, h4, h5⟩ := atI_get hv2
        obtain ⟨w, ew, ru⟩ := rr.get h2
        have hl := rr.length
        have hn := line63
        have fin : EP X pins σ Q w s := ⟨v, H, I, ru, q.at rg h rv⟩
        by_cases h0 : 0 ≤ k
        · have hj : k.toNat = j := by
            rw [seqIndex_of h0 h5] at h1
            exact Option.some.inj h1
          exact wpAny_getItem_list pl.isList h0 (by omega) (by rw [hj]; simpa using ew) fin
        · have hj : (k + (its.toArray.size : Int)).toNat = j := by
            rw [seqIndex_neg (by omega) h4] at h1
            rw [List.size_toArray, ← hl]
            exact Option.some.inj h1
          exact wpAny_getItem_list_neg pl.isList (by omega) (by rw [List.size_toArray] <;> omega) (by omega) (by rw [hj]; simpa using ew) fin
      · exact h.elim
    · exact h.elim
  · exact h.elim
end
end DL

set_option Elab.async false
set_option linter.all false
set_option maxRecDepth 100000
set_option maxHeartbeats 4000000
set_option autoImplicit false
namespace DL
open PySem PySem.Spec PyProof.Rows L2

/-! ### slices -/
abbrev DO := Sd → Gp → (Option Int → Gp → Prop) → Prop
def upO (K : PySem.W.Frag) (t : DO) : TO := fun τ H Q => ∃ σ G N R, RSt K H N σ τ ∧ RelG K H N G ∧ t σ G R ∧ ∀ o G' N' H', R o G' → Stp K H N G H' N' G' → Q o H'
def QO (X : Cx) (e : Option Expr) (t : DO) : Prop := PO X e (upO X.K t)
def dNoPart : DO := fun _ G R => R none G
def dPart (t : DE) : DO := fun σ G R => t σ G fun x G1 => match x with | .int i => R (some i) G1 | _ => False
theorem po_mono {X : Cx} {e : Option Expr} {t t' : TO} (h : PO X e t) (i : ∀ τ H Q, t' τ H Q → t τ H Q) : PO X e t' := ⟨fun pins s σ H Q I q => h.run pins s σ H Q I (i σ H Q q)⟩
def cutL {α : Type} (xs : List α) (lo hi : Option Int) : List α := (xs.drop (HT.sIx xs.length 0 lo)).take (HT.sIx xs.length xs.length hi - HT.sIx xs.length 0 lo)
theorem RDs.cut {K : PySem.W.Frag} {H : Hp} {N : Ns} {ds : List D} {vs : List V} (r : RDs K H N ds vs) (lo hi : Option Int) : RDs K H N (cutL ds lo hi) (cutV vs lo hi) := by
  unfold cutL cutV
  rw [r.length]
  exact RDs.take _ (RDs.drop _ r)
theorem cut_whole {α : Type} {xs : List α} {lo hi : Option Int} (h : HT.sIx xs.length 0 lo = 0 ∧ HT.sIx xs.length xs.length hi = xs.length) : cutL xs lo hi = xs := by
  unfold cutL
  rw [h.1, h.2, List.drop_zero, Nat.sub_zero, List.take_length]
def dSl (mk : Bool) : D → Option Int → Option Int → Gp → DK → Prop := fun x lo hi G R => match x with
  | .str z => z.length ≤ sizeLine ∧ R (.str (cutS z lo hi)) G
  | .tup ds => R (.tup (cutL ds lo hi)) G
  | x => match lstOf G x with | some ds => newL mk (cutL ds lo hi) G R | none => False
def dSlice (mk : Bool) (te : DE) (tl th : DO) : DE := fun σ G R => te σ G fun x G1 => tl σ G1 fun l G2 => th σ G2 fun u G3 => dSl mk x l u G3 R
section
variable {X : Cx} {e : Expr} {te : DE} {pos : Pos}
theorem qo_none : QO X none dNoPart := po_mono po_none fun τ H Q h => by
  obtain ⟨σ, G, N, R, hs, hg, ht, q⟩ := h
  exact q _ _ _ _ ht (Stp.refl hg)
theorem qo_some (h : QE X e te) : QO X (some e) (dPart te) := po_mono (po_some h) fun τ H Q h => by
  obtain ⟨σ, G, N, R, hs, hg, ht, q⟩ := h
  refine ⟨σ, G, N, _, hs, hg, ht, fun d G1 N1 v1 H1 h1 s1 r1 => ?_⟩
  split at h1
  · exact ⟨_, r1.of_int, q _ _ _ _ h1 s1⟩
  · exact h1.elim
theorem qe_slice (mk : Bool) {lo hi : Option Expr} {tl th : DO} {p2 : Pos} (he : QE X e te) (hl : QO X lo tl) (hu : QO X hi th) : QE X (.Subscript e (.Slice lo hi none p2) pos) (dSlice mk te tl th) :=
  pe_mono (pe_slice (sl_str.or (sl_tupA.or sl_list)) he hl hu) fun τ H Q h => by
    obtain ⟨σ, G, N, R, hs, hg, ht, q⟩ := h
    refine ⟨σ, G, N, _, hs, hg, ht, fun d G1 N1 v1 H1 h1 s1 r1 => ?_⟩
    refine ⟨σ, G1, N1, _, hs.le s1.kp, s1.rel, h1, fun l G2 N2 H2 h2 s2 => ?_⟩
    refine ⟨σ, G2, N2, _, (hs.le s1.kp).le s2.kp, s2.rel, h2, fun u G3 N3 H3 h3 s3 => ?_⟩
    have s13 := (s1.trans s2).trans s3
    have r3 := (r1.le s2.kp).le s3.kp
    have q3 := q.le s13
    have rg := s3.rel
    unfold dSl at h3
    split at h3
    · obtain rfl := r3.of_str
      exact .inl ⟨_, rfl, h3.1, q3.at rg h3.2 (RD.str _)⟩
    · rename_i ds
      obtain ⟨p, vs, rfl, sq, r⟩ := r3.of_tup
      have hlen := r.length
      refine .inr (.inl ⟨p, vs, rfl, sq, fun hw => ?_, fun hw p np => ?_⟩)
      · rw [cut_whole (by rw [hlen]; exact hw)] at h3
        exact q3.at rg h3 (RD.tup sq r)
      · exact newT_ok rg (r.cut l u) h3 q3 np
    · split at h3
      · rename_i ds ed
        obtain ⟨p, vs, rfl, sq, r⟩ := lstOf_ok rg r3 ed
        exact .inr (.inr ⟨p, vs, rfl, sq, fun p np => newL_ok rg (r.cut l u) h3 q3 np⟩)
      · exact h3.elim
end
/-! ### t[::-1] -/
section
variable {prog : Program} {w : World} {A : Around} {E : Value → Shared → Prop} {s : Shared}
theorem rev_places (n : Nat) : Builtin.Slice.slicePlaces ((n : Int) - 1) (-1) (-1) = n := by
  unfold Builtin.Slice.slicePlaces
  rw [if_neg (by decide)]
  by_cases h : (n : Int) - 1 > -1
  · rw [if_pos h, show (- -1 : Int) = 1 by decide, Int.ediv_one]
    omega
  · rw [if_neg h]
    omega
theorem rev_pick (xs : Array Value) : ((List.range xs.size).filterMap fun (m : Nat) => xs[(((xs.size : Int) - 1) + (m : Int) * (-1)).toNat]?).toArray = xs.toList.reverse.toArray := by
  have e : ((List.range xs.size).filterMap fun (m : Nat) => xs[(((xs.size : Int) - 1) + (m : Int) * (-1)).toNat]?) = (((List.range xs.size).map fun k => xs.size - 1 - k).filterMap (xs[·]?)) := by
    rw [List.filterMap_map]
    have aux : ∀ (l : List Nat), (∀ m ∈ l, m < xs.size) → l.filterMap (fun (m : Nat) => xs[(((xs.size : Int) - 1) + (m : Int) * (-1)).toNat]?) = l.filterMap ((fun x => xs[x]?) ∘ fun k => xs.size - 1 - k) := by
      intro l
      induction l with
      | nil => intro _; rfl
      | cons m l ih =>
        intro h
        have hm := h m List.mem_cons_self
        have e2 : (((xs.size : Int) - 1) + (m : Int) * (-1)).toNat = xs.size - 1 - m := by omega
        rw [List.filterMap_cons, List.filterMap_cons, ih (fun k hk => h k (List.mem_cons_of_mem _ hk)), e2] <;> rfl
    exact aux _ fun m hm => List.mem_range.mp hm
  rw [e]
  have h := PySem.W.krv_pick xs
  unfold slicePick at h
  rw [PySem.W.krv_bounds] at h
  have h' : ((sliceRange ((xs.size : Int) - 1) (-1) (-1)).filterMap (xs[·]?)).toArray = xs.toList.reverse.toArray := h
  rw [PySem.W.krv_sliceRange] at h'
  exact h'
theorem getItem_tuple_rev {t sl : Addr} {items : Array Value} {vs : Value} {Q : Value → Shared → Prop} (ht : IsTup s.heap t items) (hs : s.heap.IsSliceOf sl .none .none vs) (ps : IsPart vs (some (-1)))
    (h : Q (.ref s.heap.objs.size) { s with heap := s.heap.push { cls := .type "tuple", data := .seq items.toList.reverse.toArray } })
    (hsz : items.size ≤ sizeLine) : wpAny (model prog w) A (getItem (.ref t) (.ref sl)) Q E s := by
  have htake : sizeOk (.seq items.toList.reverse.toArray) := by
    show items.toList.reverse.toArray.size ≤ sizeLine
    rw [List.size_toArray, List.length_reverse, Array.length_toList]
    exact hsz
  obtain ⟨os, hos, hcs, hds⟩ := id hs
  have hTs : s.TypeIs (.ref sl) "slice" := ⟨os, hos, hcs⟩
  unfold getItem
  try with_reducible refine wpAny_holding ?_
  first | refine wpAny_bind (wpAny_pure ?_) | skip
  refine wpAny_bind (wpAny_sequenceKey ht.typeIs (by decide) ?_)
  refine wpAny_bind (wpAny_callSpecial?_slot (name := Str.ofString "__getitem__") ht.typeIs PyProof.Rows.slot_tuple_getitem
    (wpAny_call_entry PyProof.Rows.slot_tuple_getitem ht.typeIs entry_tuple_getitem ?_ (args_tuple_getitem _ _)))
  show wpAny _ _ (Builtin.Tuple.tupleItemsOf (.ref t) >>= _) _ _ s
  refine wpAny_bind (tupleItemsOf_ ht ?_)
  refine wpAny_bind (wpAny_typeOf hTs ?_)
  rw [if_pos (by decide)]
  have ap : ∀ (A : Around) (E : Value → Shared → Prop) (Q : Int × Int × Nat → Shared → Prop), Q ((items.size : Int) - 1, -1, items.size) s → wpAny (model prog w) A (Builtin.Slice.sliceApplied (.ref sl) (pure (items.size : Int))) Q E s := by
    intro A E Q hQ
    unfold Builtin.Slice.sliceApplied Builtin.Slice.sliceFields
    refine wpAny_bind (wpAny_bind (wpAny_field hos hds (x := .none) rfl (wpAny_bind (wpAny_field hos hds (x := .none) rfl (wpAny_bind (wpAny_field hos hds (x := vs) rfl (wpAny_pure ?_)))))))
    refine wpAny_bind (HT.slicePart_ ps ?_)
    show wpAny _ _ (if ((-1 : Int) == 0) = true then _ else _) _ _ s
    rw [if_neg (by decide)]
    refine wpAny_bind (slicePart_none (wpAny_bind (slicePart_none (wpAny_bind (wpAny_pure ?_)))))
    show wpAny _ _ (pure (((items.size : Int) - 1), (-1 : Int), Builtin.Slice.slicePlaces ((items.size : Int) - 1) (-1) (-1))) _ _ s
    rw [rev_places]
    exact wpAny_pure hQ
  refine wpAny_bind (ap _ _ _ ?_)
  have hno : ¬ ((((items.size : Int) - 1) == 0 && (-1 : Int) == 1 && items.size == items.size) = true) := by
    intro q
    rw [Bool.and_eq_true, Bool.and_eq_true] at q
    exact absurd q.1.2 (by decide)
  show wpAny _ _ (if (((items.size : Int) - 1) == 0 && (-1 : Int) == 1 && items.size == items.size) = true then _ else _) _ _ s
  rw [if_neg hno, rev_pick]
  first
    | exact wpAny_bind (m := Builtin.Tuple.tupleExact _) (wpAny_newObj_type (wpAny_pure ⟨_, rfl, wpAny_pure h⟩) htake)
    | exact wpAny_bind (m := Builtin.Tuple.tupleExact _) (wpAny_newObj_type (wpAny_bind (wpAny_pure (wpAny_pure ⟨_, rfl, wpAny_pure h⟩))) htake)
    | exact wpAny_bind (wpAny_bind (m := Builtin.Tuple.tupleExact _) (wpAny_newObj_type (wpAny_pure (wpAny_pure ⟨_, rfl, wpAny_pure h⟩)) htake))
    | exact wpAny_bind (wpAny_bind (m := Builtin.Tuple.tupleExact _) (wpAny_newObj_type (wpAny_pure ⟨_, rfl, wpAny_pure h⟩) htake))
end
section
variable {X : Cx}
def tRevS (K : PySem.W.Frag) (te : TE) : TE := fun σ H Q => te σ H fun x H1 => ∃ a xs, x = .ref a ∧ ((SqL K H1 a xs ∧ ∀ p, H1 p = none → Q (.ref p) (upd H1 p (.lst xs.reverse))) ∨ (SqT K H1 a xs ∧ ∀ p, H1 p = none → Q (.ref p) (upd H1 p (.tup xs.reverse))))
theorem pe_revS {e : Expr} {te : TE} {k : Nat} {p1 p2 p3 pos : Pos} (he : PE X e te) : PE X (.Subscript e (.Slice none none (some (.UnaryOp .USub (.Constant (.int 1) k p1) p2)) p3) pos) (tRevS X.K te) := by
  refine ⟨fun pins s σ H Q I h => ?_⟩
  refine Subscript_ (thn (he.run pins s σ H _ I h) fun v s1 ⟨x, H1, I1, r1, q1⟩ => ?_)
  obtain ⟨a, xs, ex, q⟩ := q1
  subst ex
  cases r1
  have hst : PO X (some (.UnaryOp .USub (.Constant (.int 1) k p1) p2)) (tPart (tUn (rU fun i => .int (-i)) (tC (.int 1)))) := po_some (pe_un un_neg pe_int)
  refine wpAny_Slice (thn (po_none.run pins s1 σ H1 (fun o H2 => o = none ∧ H2 = H1) I1 ⟨rfl, rfl⟩) fun vl s2 ⟨l, H2, I2, pl, el, e2⟩ => ?_)
  subst el e2
  refine thn (po_none.run pins s2 σ H2 (fun o H3 => o = none ∧ H3 = H2) I2 ⟨rfl, rfl⟩) fun vu s3 ⟨u, H3, I3, pu, eu, e3⟩ => ?_
  subst eu e3
  refine thn (hst.run pins s3 σ H3 (fun o H4 => o = some (-1) ∧ H4 = H3) I3 ⟨1, rfl, -1, rfl, rfl, rfl⟩) fun vs s4 ⟨o, H4, I4, ps, eo, e4⟩ => ?_
  subst eo e4
  have I5 : Inv X pins σ H4 { s4 with heap := s4.heap.push { cls := .type "slice", data := .fields #[vl, vu, vs] } } := I4.kept (t' := s4.toks) fun b ob q => Heap.get?_push_of_some _ q
  show wpAny (model X.prog X.w) X.A (subscriptTail e (.Slice none none (some (.UnaryOp .USub (.Constant (.int 1) k p1) p2)) p3) (.ref a) (.ref s4.heap.objs.size)) (EP X pins σ Q) X.xe { s4 with heap := s4.heap.push { cls := .type "slice", data := .fields #[vl, vu, vs] } }
  rcases q with ⟨hx, q⟩ | ⟨hx, q⟩
  · obtain ⟨its, r, ht, hz⟩ := I5.list hx
    have hlen := r.length
    refine tail_any (ops := [.ref a, .ref s4.heap.objs.size]) ht.isList.typeIs (PySem.slot_list_getitem.lookup) ?_ (by with_unfolding_all rfl)
    refine wpAny_getItem_list_slice ht.isList (Heap.IsSliceOf.new _ vl vu vs) pl pu ps (by decide) ?_ (by rw [List.size_toArray]; omega)
    rw [PySem.W.krv_pick]
    refine ⟨.ref _, _, I5.laid (t' := s4.toks) (o := .lst xs.reverse) (fun b ob q => Heap.get?_push_of_some _ q) (Nat.le_refl _) ?_, rfl, q _ (I5.hok.fresh (Nat.le_refl _))⟩
    exact ⟨by rw [List.length_reverse]; exact hz, _, 0, r.reverse, Heap.get?_push_size _ rfl⟩
  · obtain ⟨its, r, ht, hz⟩ := I5.tuple hx
    have hlen := r.length
    refine tail_any (ops := [.ref a, .ref s4.heap.objs.size]) ht.typeIs (PyProof.Rows.slot_tuple_getitem.lookup) ?_ (by with_unfolding_all rfl)
    have e1 : vl = .none := by cases pl; rfl
    have e2 : vu = .none := by cases pu; rfl
    refine getItem_tuple_rev ht (vs := vs) (by have := Heap.IsSliceOf.new s4.heap vl vu vs; rw [e1, e2] at this ⊢; exact this) ps ?_ (by rw [List.size_toArray]; omega)
    refine ⟨.ref _, _, I5.laid (t' := s4.toks) (o := .tup xs.reverse) (fun b ob q => Heap.get?_push_of_some _ q) (Nat.le_refl _) ?_, rfl, q _ (I5.hok.fresh (Nat.le_refl _))⟩
    exact ⟨by rw [List.length_reverse]; exact hz, _, r.reverse, ⟨_, Heap.get?_push_size _ rfl, rfl, 0, rfl⟩⟩
def dRev (mk : Bool) (te : DE) : DE := fun σ G R => te σ G fun x G1 => match x with
  | .tup ds => R (.tup ds.reverse) G1
  | x => match lstOf G1 x with | some ds => newL mk ds.reverse G1 R | none => False
theorem qe_rev (mk : Bool) {e : Expr} {te : DE} {k : Nat} {p1 p2 p3 pos : Pos} (he : QE X e te) : QE X (.Subscript e (.Slice none none (some (.UnaryOp .USub (.Constant (.int 1) k p1) p2)) p3) pos) (dRev mk te) := pe_mono (pe_revS he) fun τ H Q h => by
  obtain ⟨σ, G, N, R, hs, hg, ht, q⟩ := h
  refine ⟨σ, G, N, _, hs, hg, ht, fun d G1 N1 v1 H1 h1 s1 r1 => ?_⟩
  split at h1
  · obtain ⟨p, vs, rfl, sq, r⟩ := r1.of_tup
    exact ⟨p, vs, rfl, .inr ⟨sq, fun p np => newT_ok s1.rel r.reverse h1 (q.le s1) np⟩⟩
  · split at h1
    · rename_i ds ed
      obtain ⟨p, vs, rfl, sq, r⟩ := lstOf_ok s1.rel r1 ed
      exact ⟨p, vs, rfl, .inl ⟨sq, fun p np => newL_ok s1.rel r.reverse h1 (q.le s1) np⟩⟩
    · exact h1.elim
/-! ### built-ins -/
theorem up_rn {f : Value} {r : DRn} {rv : List V → Hp → VK → Prop} (h : CallR X f rv) (i : ∀ cs G N R xs H Q, RDs X.K H N cs xs → RelG X.K H N G → r cs G R → UpQ X.K H N G R Q → rv xs H Q) : CallD X f r := callr_mono h fun xs H Q h => by
  obtain ⟨cs, G, N, R, r1, rg, h, q⟩ := h
  exact i cs G N R xs H Q r1 rg h q
def dLen : DRn := fun cs G R => match cs with
  | [.str z] => z.length ≤ sizeLine ∧ R (.int z.length) G
  | [x] => match seqOf G x with | some ds => R (.int ds.length) G | none => False
  | _ => False
theorem cd_len : CallD X (.builtin "len") dLen := up_rn (call_len_str.or call_len_seq) fun cs G N R xs H Q rd rg h q => by
  unfold dLen at h
  split at h
  · obtain ⟨v, r, rfl, r1, r2⟩ := rd.of_cons
    rw [r1.of_str, r2.of_nil]
    exact .inl ⟨_, rfl, h.1, q.at rg h.2 (RD.int _)⟩
  · obtain ⟨v, r, rfl, r1, r2⟩ := rd.of_cons
    rw [r2.of_nil]
    split at h
    · rename_i ds e
      obtain ⟨p, vs, rfl, s, r⟩ := seqOf_ok rg r1 e
      refine .inr ⟨p, vs, rfl, s, ?_⟩
      rw [← r.length]
      exact q.at rg h (RD.int _)
    · exact h.elim
  · exact h.elim
def blsOf : List D → Option (List Bool)
  | [] => some []
  | .bl b :: r => match blsOf r with | some bs => some (b :: bs) | none => none
  | _ => none
theorem blsOf_ok : ∀ {ds : List D} {bs : List Bool}, blsOf ds = some bs → ds = bs.map D.bl
  | [], _, h => by cases h; rfl
  | .bl b :: r, _, h => by
    unfold blsOf at h
    split at h
    · rename_i bs e
      cases h
      rw [blsOf_ok e] <;> rfl
    · cases h
  | .non :: r, _, h => by simp [blsOf] at h
  | .int _ :: r, _, h => by simp [blsOf] at h
  | .str _ :: r, _, h => by simp [blsOf] at h
  | .ty _ :: r, _, h => by simp [blsOf] at h
  | .ref _ :: r, _, h => by simp [blsOf] at h
  | .any _ :: r, _, h => by simp [blsOf] at h
  | .tup _ :: r, _, h => by simp [blsOf] at h
  | .lst _ :: r, _, h => by simp [blsOf] at h
theorem blsOf_map : ∀ bs : List Bool, blsOf (bs.map D.bl) = some bs
  | [] => rfl
  | b :: bs => by rw [List.map_cons]; unfold blsOf; rw [blsOf_map bs]
def dAll : DRn := fun cs G R => match cs with
  | [x] => match (lstOf G x).bind blsOf with | some bs => R (.bl (bs.all id)) G | none => False
  | _ => False
theorem bls_at {K : PySem.W.Frag} {H : Hp} {N : Ns} {G : Gp} {d : D} {v : V} {bs : List Bool} (rg : RelG K H N G) (rd : RD K H N d v) (h : (lstOf G d).bind blsOf = some bs) : ∃ p, v = .ref p ∧ SqL K H p (bs.map V.bl) := by
  cases e : lstOf G d with
  | none => rw [e] at h; cases h
  | some ds =>
    rw [e] at h
    obtain ⟨p, vs, rfl, s, r⟩ := lstOf_ok rg rd e
    have e2 := blsOf_ok (show blsOf ds = some bs from h)
    subst e2
    rw [r.of_bls] at s
    exact ⟨p, rfl, s⟩
theorem cd_all (hc : X.calm = true) : CallD X (.builtin "all") dAll := up_rn (cr_all hc) fun cs G N R xs H Q rd rg h q => by
  unfold dAll at h
  split at h
  · obtain ⟨v, r, rfl, r1, r2⟩ := rd.of_cons
    rw [r2.of_nil]
    split at h
    · rename_i bs e
      obtain ⟨p, rfl, s⟩ := bls_at rg r1 e
      exact ⟨p, bs, rfl, s, q.at rg h (RD.bl _)⟩
    · exact h.elim
  · exact h.elim
def dMax2 : DRn := fun cs G R => match cs with | [.int i, .int j] => R (.int (if j > i then j else i)) G | _ => False
def dMin2 : DRn := fun cs G R => match cs with | [.int i, .int j] => R (.int (if j < i then j else i)) G | _ => False
theorem cd_max2 (hc : X.calm = true) : CallD X (.builtin "max") dMax2 := up_rn (call_max2 hc) fun cs G N R xs H Q rd rg h q => by
  unfold dMax2 at h
  split at h
  · obtain ⟨v, r, rfl, r1, r2⟩ := rd.of_cons
    obtain ⟨v', r', rfl, r3, r4⟩ := r2.of_cons
    rw [r4.of_nil, r1.of_int, r3.of_int]
    exact ⟨_, _, rfl, q.at rg h (RD.int _)⟩
  · exact h.elim
theorem cd_min2 (hc : X.calm = true) : CallD X (.builtin "min") dMin2 := up_rn (call_min2 hc) fun cs G N R xs H Q rd rg h q => by
  unfold dMin2 at h
  split at h
  · obtain ⟨v, r, rfl, r1, r2⟩ := rd.of_cons
    obtain ⟨v', r', rfl, r3, r4⟩ := r2.of_cons
    rw [r4.of_nil, r1.of_int, r3.of_int]
    exact ⟨_, _, rfl, q.at rg h (RD.int _)⟩
  · exact h.elim
def dTuple : DRn := fun cs G R => match cs with | [x] => (match seqOf G x with | some ds => R (.tup ds) G | none => False) | _ => False
def dList (mk : Bool) : DRn := fun cs G R => match cs with | [x] => (match seqOf G x with | some ds => newL mk ds G R | none => False) | _ => False
theorem cd_tuple : CallD X (.type "tuple") dTuple := up_rn call_tuple_of fun cs G N R xs H Q rd rg h q => by
  unfold dTuple at h
  split at h
  · obtain ⟨v, r, rfl, r1, r2⟩ := rd.of_cons
    rw [r2.of_nil]
    split at h
    · rename_i ds e
      obtain ⟨p, vs, rfl, s, r⟩ := seqOf_ok rg r1 e
      refine ⟨p, vs, rfl, ?_⟩
      rcases s with s | s
      · exact .inl ⟨s, fun p np => newT_ok rg r h q np⟩
      · exact .inr ⟨s, q.at rg h (RD.tup s r)⟩
    · exact h.elim
  · exact h.elim
theorem cd_list (mk : Bool) : CallD X (.type "list") (dList mk) := up_rn call_list_of fun cs G N R xs H Q rd rg h q => by
  unfold dList at h
  split at h
  · obtain ⟨v, r, rfl, r1, r2⟩ := rd.of_cons
    rw [r2.of_nil]
    split at h
    · rename_i ds e
      obtain ⟨p, vs, rfl, s, r⟩ := seqOf_ok rg r1 e
      exact ⟨p, vs, rfl, s, fun p np => newL_ok rg r h q np⟩
    · exact h.elim
  · exact h.elim
def dInt : DRn := fun cs G R => match cs with | [.int i] => R (.int i) G | [.bl b] => R (.int (if b then 1 else 0)) G | _ => False
theorem cd_int : CallD X (.type "int") dInt := up_rn call_int1 fun cs G N R xs H Q rd rg h q => by
  unfold dInt at h
  split at h
  · obtain ⟨v, r, rfl, r1, r2⟩ := rd.of_cons
    rw [r2.of_nil, r1.of_int]
    exact .inl ⟨_, rfl, q.at rg h (RD.int _)⟩
  · obtain ⟨v, r, rfl, r1, r2⟩ := rd.of_cons
    rw [r2.of_nil, r1.of_bl]
    exact .inr ⟨_, rfl, q.at rg h (RD.int _)⟩
  · exact h.elim
def dStrI : DRn := fun cs G R => match cs with | [.int i] => i.natAbs.log2 < 1920 ∧ R (.str (toString i)) G | _ => False
theorem cd_strI : CallD X (.type "str") dStrI := up_rn call_str_int fun cs G N R xs H Q rd rg h q => by
  unfold dStrI at h
  split at h
  · obtain ⟨v, r, rfl, r1, r2⟩ := rd.of_cons
    rw [r2.of_nil, r1.of_int]
    exact ⟨_, rfl, h.1, q.at rg h.2 (RD.str _)⟩
  · exact h.elim
/-- the type of data -/
def tyD (G : Gp) : D → Option String
  | .non => some "NoneType" | .bl _ => some "bool" | .int _ => some "int" | .str _ => some "str" | .tup _ => some "tuple" | .nt _ => some "tuple" | .lst _ => some "list"
  | .any n => if n = "list" ∨ n = "dict" then some n else none
  | .ref a => match G a with | some (.lst _) => some "list" | some (.dK _) => some "dict" | some (.dT _) => some "dict" | _ => none
  | _ => none
def isTy (t n : String) : Bool := t == n || (t == "bool" && n == "int")
def knownTy : List String := ["int", "bool", "str", "tuple", "list", "dict"]
def dIsi : DRn := fun cs G R => match cs with
  | [x, .ty n] => n ∈ knownTy ∧ (match tyD G x with | some t => R (.bl (isTy t n)) G | none => False)
  | _ => False
theorem kits : ∀ t ∈ ["NoneType", "bool", "int", "str", "tuple", "list", "dict"], ∀ n ∈ knownTy, kitB t n = some (isTy t n) := by decide +kernel
theorem knd_ty {K : PySem.W.Frag} {H : Hp} {a : Addr} {u : HO} {n : String} (h : H a = some u) (k : knd u = n) (d : n = "list" ∨ n = "dict") : TyX K H (.ref a) (.type n) := by
  subst k
  cases u with
  | lst _ => exact .base (.lst h)
  | dK _ => exact .base (.dK h)
  | dT _ => exact .base (.dT h)
  | frz o z =>
    cases z with
    | lst _ => exact .base (.frz h)
    | dK _ => exact .fDict h
    | _ => simp [knd] at d
  | _ => simp [knd] at d
theorem tyD_ok {K : PySem.W.Frag} {H : Hp} {N : Ns} {G : Gp} {d : D} {v : V} {t : String} (rg : RelG K H N G) (rd : RD K H N d v) (h : tyD G d = some t) : TyX K H v (.type t) ∧ t ∈ ["NoneType", "bool", "int", "str", "tuple", "list", "dict"] := by
  cases d with
  | non => cases h; rw [rd.of_non]; exact ⟨.base .non, by decide⟩
  | bl b => cases h; rw [rd.of_bl]; exact ⟨.base (.bl _), by decide⟩
  | int b => cases h; rw [rd.of_int]; exact ⟨.base (.int _), by decide⟩
  | str b => cases h; rw [rd.of_str]; exact ⟨.base (.str _), by decide⟩
  | ty b => cases h
  | nt zs =>
    cases h
    obtain ⟨p, rfl, s⟩ := rd.of_nt
    refine ⟨?_, by decide⟩
    rcases s with ⟨o, s, _⟩ | ⟨o, its, n, e, c, _⟩
    · exact .fTuple s
    · exact .kTuple e c
  | tup ds =>
    cases h
    obtain ⟨p, vs, rfl, s, r⟩ := rd.of_tup
    refine ⟨?_, by decide⟩
    rcases s with (s | ⟨o, s⟩) | ⟨o, its, n, e, c, _⟩
    · exact .base (.tup s)
    · exact .fTuple s
    · exact .kTuple e c
  | lst ds =>
    cases h
    obtain ⟨p, vs, rfl, s, r⟩ := rd.of_lst
    refine ⟨?_, by decide⟩
    rcases s with ⟨s, _⟩ | ⟨o, s⟩ | ⟨o, its, n, e, c, _⟩
    · exact .base (.lst s)
    · exact .base (.frz s)
    · exact .kList e c
  | any n =>
    obtain ⟨a, u, rfl, hu, k⟩ := rd.of_any
    unfold tyD at h
    simp only at h
    split at h
    · rename_i d
      cases h
      refine ⟨knd_ty hu k d, ?_⟩
      rcases d with d | d
      · subst d; decide
      · subst d; decide
    · cases h
  | ref a =>
    obtain rfl := rd.of_ref
    unfold tyD at h
    simp only at h
    split at h
    · rename_i ds e
      cases h
      obtain ⟨_, vs, hv, _⟩ := rg a _ e
      exact ⟨.base (.lst hv), by decide⟩
    · rename_i ds e
      cases h
      obtain ⟨_, vs, hv, _⟩ := rg a _ e
      exact ⟨.base (.dK hv), by decide⟩
    · rename_i ds e
      cases h
      obtain ⟨_, vs, hv, _⟩ := rg a _ e
      exact ⟨.base (.dT hv), by decide⟩
    · cases h
theorem cd_isi : CallD X (.builtin "isinstance") dIsi := up_rn call_isi fun cs G N R xs H Q rd rg h q => by
  unfold dIsi at h
  split at h
  · rename_i x n
    obtain ⟨hn, h⟩ := h
    obtain ⟨v, r, rfl, r1, r2⟩ := rd.of_cons
    obtain ⟨v', r', rfl, r3, r4⟩ := r2.of_cons
    rw [r4.of_nil, r3.of_ty]
    split at h
    · rename_i t et
      obtain ⟨ty, mt⟩ := tyD_ok rg r1 et
      exact ⟨v, _, .type t, .type n, isTy t n, rfl, .ty n, ty, kit_ty (kits t mt n hn), q.at rg h (RD.bl _)⟩
    · exact h.elim
  · exact h.elim
/-- a built-in type's name, as a value -/
theorem qe_ty {x : Str} {n : String} {pos : Pos} (hg : Gl X x) (hm : X.mg x = none) (hv : bootBuiltins x = some (.type n)) (hn : x ≠ "__name__" := by decide) (hd : (x == ("__debug__" : Str)) = false := by decide) : QE X (.Name x pos) (dC (.ty n)) :=
  pe_mono (pe_bltn hg hm hv (v := .ty n) rfl hn hd) fun _ _ _ h => up_c (fun _ _ => RD.ty n) h
/-! ### methods -/
def MtD (X : Cx) (id : String) (r : D → List D → Gp → DK → Prop) : Prop := MtR X id (upM X.K r)
theorem mtr_mono {id : String} {r r' : V → List V → Hp → VK → Prop} (h : MtR X id r) (i : ∀ x xs H Q, r' x xs H Q → r x xs H Q) : MtR X id r' := fun pins s σ H x xs v us Q I rx rxs q => h pins s σ H x xs v us Q I rx rxs (i x xs H Q q)
theorem md_of {id : String} {r : D → List D → Gp → DK → Prop} {rv : V → List V → Hp → VK → Prop} (h : MtR X id rv) (i : ∀ c cs G N R x xs H Q, RD X.K H N c x → RDs X.K H N cs xs → RelG X.K H N G → r c cs G R → UpQ X.K H N G R Q → rv x xs H Q) : MtD X id r := mtr_mono h fun x xs H Q h => by
  obtain ⟨c, cs, G, N, R, r0, r1, rg, h, q⟩ := h
  exact i c cs G N R x xs H Q r0 r1 rg h q
/-- the type of what has methods -/
def mty (G : Gp) : D → Option String
  | .str _ => some "str" | .lst _ => some "list"
  | .ref a => match G a with | some (.lst _) => some "list" | some (.dK _) => some "dict" | some (.dT _) => some "dict" | _ => none
  | _ => none
def dM (T : String) (r : D → List D → Gp → DK → Prop) (to : DE) (t : DA) : DE := fun σ G R => to σ G fun x G1 => mty G1 x = some T ∧ t σ G1 fun xs G2 => r x xs G2 R
def dM0 (T : String) (r : D → List D → Gp → DK → Prop) (to : DE) : DE := fun σ G R => to σ G fun x G1 => mty G1 x = some T ∧ r x [] G1 R
theorem tyV_of {K : PySem.W.Frag} {H : Hp} {N : Ns} {G : Gp} {d : D} {v : V} {T : String} (rg : RelG K H N G) (rd : RD K H N d v) (h : mty G d = some T) : tyV K T v H := by
  cases d with
  | str b => cases h; rw [rd.of_str] <;> rfl
  | lst ds =>
    cases h
    obtain ⟨p, vs, rfl, s, r⟩ := rd.of_lst
    exact .inl ⟨rfl, _, s.sq⟩
  | ref a =>
    obtain rfl := rd.of_ref
    unfold mty at h
    simp only at h
    split at h
    · rename_i ds e
      cases h
      obtain ⟨_, vs, hv, _⟩ := rg a _ e
      exact .inl ⟨rfl, _, SqL.of hv⟩
    · rename_i ds e
      cases h
      obtain ⟨_, vs, hv, _⟩ := rg a _ e
      exact .inr (.inr (.inl ⟨rfl, .inl ⟨_, hv⟩⟩))
    · rename_i ds e
      cases h
      obtain ⟨_, vs, hv, _⟩ := rg a _ e
      exact .inr (.inr (.inl ⟨rfl, .inr ⟨_, hv⟩⟩))
    · cases h
  | _ => cases h
variable {o e : Expr} {es : List Expr} {to : DE} {t : DA} {name : Str} {apos cpos : Pos} {T id : String} {r : D → List D → Gp → DK → Prop}
theorem qe_m (pa : PlainAttrs T) (slot : Slot T name id) (hty : typeOf (.builtin id) = pure (.type "method_descriptor")) (hm : MtD X id r) (ho : QE X o to) (ha : QA X (e :: es) t)
    (hbase : attributeBase o name X.env (eval o X.env) = eval o X.env := by rfl)
    (hfew : ((backTo cpos (starEach (e :: es) X.env)).all (fun x => !x.1) && (backToKw cpos (keywordEach [] X.env)).all (fun x => x.1.isSome)
      && decide ((e :: es).length + ([] : List Keyword).length + (if ([] : List Keyword).isEmpty then 0 else 1) < 30)) = true := by rfl)
    (hline : (apos.endLine == cpos.line) = true := by rfl) (hs : starEach (e :: es) X.env = (false, eval e X.env) :: starEach es X.env := by rfl) (hplain : (backTo cpos (starEach es X.env)).any (·.1) = false := by rfl) :
    QE X (.Call (.Attribute o name apos) (e :: es) [] cpos) (dM T r to t) := pe_mono (pe_bm pa slot hty hm ho ha hbase hfew hline hs hplain) fun τ H Q h => by
  obtain ⟨σ, G, N, R, hs, hg, ht, q⟩ := h
  refine ⟨σ, G, N, _, hs, hg, ht, fun x G1 N1 v1 H1 h1 s1 r1 => ?_⟩
  refine ⟨tyV_of s1.rel r1 h1.1, σ, G1, N1, _, hs.le s1.kp, s1.rel, h1.2, fun xs G2 N2 vs H2 h2 s2 r2 => ?_⟩
  exact ⟨x, xs, G2, N2, R, r1.le s2.kp, r2, s2.rel, h2, q.le (s1.trans s2)⟩
/-- xs.append(y) -/
def dAppend : D → List D → Gp → DK → Prop := fun x xs G R => match x, xs with
  | .ref a, [y] => match G a with | some (.lst ds) => ds.length < sizeLine ∧ R .non (gup G a (.lst (ds ++ [y]))) | _ => False
  | _, _ => False
theorem md_append : MtD X "list.append" dAppend := md_of (rv := rAppend) (fun pins s σ H x xs v us Q I rx rxs q => mt_append pins s σ H x xs v us Q I rx rxs q) fun c cs G N R x xs H Q r0 r1 rg h q => by
  unfold dAppend at h
  split at h
  · rename_i a y
    obtain rfl := r0.of_ref
    obtain ⟨v, r, rfl, rv, rr⟩ := r1.of_cons
    rw [rr.of_nil]
    split at h
    · rename_i ds e
      obtain ⟨_, vs, hv, rd⟩ := rg a _ e
      have hl := rd.length
      refine ⟨a, vs, v, rfl, rfl, hv, by omega, ?_⟩
      refine q _ _ N _ _ h.2 (Stp.write (u := .lst (vs ++ [v])) rg e hv rfl rfl ⟨_, upd_same, ?_⟩) RD.non
      exact (rd.append (RDs.cons rv RDs.nil)).le (Kp.write (u := .lst (vs ++ [v])) (rg a _ e).1 hv rfl rfl)
    · exact h.elim
  · exact h.elim
def strsOf : List D → Option (List Str)
  | [] => some []
  | .str b :: r => match strsOf r with | some bs => some (b :: bs) | none => none
  | _ => none
theorem strsOf_ok : ∀ {ds : List D} {bs : List Str}, strsOf ds = some bs → ds = bs.map D.str
  | [], _, h => by cases h; rfl
  | .str b :: r, _, h => by
    unfold strsOf at h
    split at h
    · rename_i bs e
      cases h
      rw [strsOf_ok e] <;> rfl
    · cases h
  | .non :: r, _, h => by simp [strsOf] at h
  | .int _ :: r, _, h => by simp [strsOf] at h
  | .bl _ :: r, _, h => by simp [strsOf] at h
  | .ty _ :: r, _, h => by simp [strsOf] at h
  | .ref _ :: r, _, h => by simp [strsOf] at h
  | .any _ :: r, _, h => by simp [strsOf] at h
  | .tup _ :: r, _, h => by simp [strsOf] at h
  | .lst _ :: r, _, h => by simp [strsOf] at h
theorem strsOf_map : ∀ bs : List Str, strsOf (bs.map D.str) = some bs
  | [] => rfl
  | b :: bs => by rw [List.map_cons]; unfold strsOf; rw [strsOf_map bs]
/-- sep.join(texts) -/
def dJoin : D → List D → Gp → DK → Prop := fun x xs G R => match x, xs with
  | .str a, [y] => match (seqOf G y).bind strsOf with | some ys => (ys.map (·.length)).sum + ys.length * a.length ≤ 16777216 ∧ R (.str (Txt.join a ys)) G | none => False
  | _, _ => False
theorem md_join : MtD X "str.join" dJoin := md_of mt_join fun c cs G N R x xs H Q r0 r1 rg h q => by
  unfold dJoin at h
  split at h
  · obtain rfl := r0.of_str
    obtain ⟨v, r, rfl, rv, rr⟩ := r1.of_cons
    rw [rr.of_nil]
    rename_i a0 y
    split at h
    · rename_i ys e
      cases e2 : seqOf G y with
      | none => rw [e2] at e; cases e
      | some ds =>
        rw [e2] at e
        obtain ⟨p, vs, rfl, s, rd⟩ := seqOf_ok rg rv e2
        have e3 := strsOf_ok (show strsOf ds = some ys from e)
        subst e3
        rw [rd.of_strs] at s
        exact ⟨_, p, ys, rfl, rfl, s, h.1, q.at rg h.2 (RD.str _)⟩
    · exact h.elim
  · exact h.elim
end
end DL

set_option Elab.async false
set_option linter.all false
set_option maxRecDepth 100000
set_option maxHeartbeats 4000000
set_option autoImplicit false
namespace DL
open PySem PySem.Spec PyProof.Rows L2
/-! ### sets of ints and texts, made of a list or a tuple -/
section
variable {κ : Type} [DecidableEq κ]
/-- each thing once, in the order of coming -/
def uniqStep (acc : List κ) (k : κ) : List κ := if k ∈ acc then acc else acc ++ [k]
def uniq (ks : List κ) : List κ := ks.foldl uniqStep []
theorem uniq_snoc (ks : List κ) (k : κ) : uniq (ks ++ [k]) = uniqStep (uniq ks) k := by unfold uniq; rw [List.foldl_append] <;> rfl
theorem uniq_fold : ∀ (ks acc : List κ), acc.Nodup → (ks.foldl uniqStep acc).Nodup ∧ (∀ x, x ∈ ks.foldl uniqStep acc ↔ x ∈ acc ∨ x ∈ ks) ∧ (ks.foldl uniqStep acc).length ≤ acc.length + ks.length ∧ ((ks.foldl uniqStep acc).length = acc.length + ks.length ↔ (acc ++ ks).Nodup)
  | [], acc, h => by simp [h]
  | k :: ks, acc, h => by
    rw [List.foldl_cons]
    by_cases e : k ∈ acc
    · rw [show uniqStep acc k = acc from if_pos e]
      obtain ⟨h1, h2, h3, h4⟩ := uniq_fold ks acc h
      refine ⟨h1, fun x => ?_, by simp; omega, ?_⟩
      · rw [h2 x]
        constructor
        · rintro (z | z)
          · exact .inl z
          · exact .inr (List.mem_cons_of_mem _ z)
        · rintro (z | z)
          · exact .inl z
          · rcases List.mem_cons.mp z with z | z
            · exact .inl (z ▸ e)
            · exact .inr z
      · constructor
        · intro z; simp only [List.length_cons] at z; omega
        · intro z
          rw [List.nodup_append] at z
          exact absurd rfl (z.2.2 k e k List.mem_cons_self)
    · rw [show uniqStep acc k = acc ++ [k] from if_neg e]
      have hn : (acc ++ [k]).Nodup := by
        rw [List.nodup_append]
        refine ⟨h, by simp, fun a ha b hb => ?_⟩
        rw [List.mem_singleton] at hb
        subst hb
        intro z; subst z; exact e ha
      obtain ⟨h1, h2, h3, h4⟩ := uniq_fold ks (acc ++ [k]) hn
      refine ⟨h1, fun x => ?_, by simp only [List.length_append, List.length_cons, List.length_nil] at h3 ⊢; omega, ?_⟩
      · rw [h2 x]; simp [or_assoc]
      · have e1 : (acc ++ [k]).length + ks.length = acc.length + (k :: ks).length := by simp; omega
        rw [← e1, h4]
        simp
theorem uniq_le (ks : List κ) : (uniq ks).length ≤ ks.length := by have := (uniq_fold ks [] List.nodup_nil).2.2.1; simpa [uniq] using this
theorem uniq_eq (ks : List κ) : (uniq ks).length = ks.length ↔ ks.Nodup := by have := (uniq_fold ks [] List.nodup_nil).2.2.2; simpa [uniq] using this
end
def memB (k : Key) (l : List Key) : Bool := l.any fun y => decide (y = k)
theorem memB_iff {k : Key} {l : List Key} : memB k l = true ↔ k ∈ l := by
  unfold memB
  rw [List.any_eq_true]
  constructor
  · rintro ⟨x, h, e⟩
    rw [← of_decide_eq_true e]; exact h
  · intro h
    exact ⟨k, h, decide_eq_true rfl⟩
instance keyLawful : LawfulBEq Key where
  eq_of_beq := fun {a b} h => by
    cases a with
    | inl i => cases b with
      | inl j => exact congrArg Sum.inl (eq_of_beq (show (i == j) = true from h))
      | inr j => exact absurd (show false = true from h) Bool.false_ne_true
    | inr i => cases b with
      | inl j => exact absurd (show false = true from h) Bool.false_ne_true
      | inr j => exact congrArg Sum.inr (eq_of_beq (show (i == j) = true from h))
  rfl := fun {a} => by
    cases a with
    | inl i => exact beq_self_eq_true i
    | inr i => exact beq_self_eq_true i
/-- values that are these keys -/
def KeysAre (us : List Value) (ks : List Key) : Prop := Paired (fun (k : Key) (u : Value) => keyIs k u = true) ks us
theorem KeysAre.len {us : List Value} {ks : List Key} (h : KeysAre us ks) : us.length = ks.length := (Paired.length h).symm
theorem KeysAre.get : ∀ {us : List Value} {ks : List Key} {i : Nat} {v : Value}, KeysAre us ks → us[i]? = some v → ∃ k, ks[i]? = some k ∧ keyIs k v = true
  | _, _, _, _, .nil, e => by simp at e
  | _, _, 0, _, .cons r _, e => by simp at e; subst e; exact ⟨_, rfl, r⟩
  | _, _, i + 1, v, .cons _ t, e => by
    obtain ⟨k, h1, h2⟩ := KeysAre.get (i := i) (v := v) t (by simpa using e)
    exact ⟨k, by simpa using h1, h2⟩
theorem keyIs_scan {k : Key} {v : Value} (h : keyIs k v = true) : v.scannable = true := by
  rcases keyIs_shape h with ⟨i, t, rfl, rfl⟩ | ⟨x, t, rfl, rfl⟩ <;> rfl
section
variable {prog : Program} {w : World} {A : Around} {R : Result → Shared → Prop} {I : Addr} {fp wr : List Addr} {G : Array GenState → Array GenState → Prop} {n : Nat} {P : Nat → Value → Prop} {St : Nat → Shared → Prop}
theorem loopKey (W : WalksS prog w A.in1 I fp wr G n P St) (S : Addr) (hSf : S ∉ fp) (xs : List Key) (hsz : xs.length = n) (hb : xs.length + 1 < scanBound)
    (hval : ∀ i v, P i v → ∃ k, xs[i]? = some k ∧ keyIs k v = true) :
    ∀ (k i : Nat) (s : Shared), n - i = k → i ≤ n → St i s →
      s.heap.SetOf (mixKind prog w) S (fun k' => memB k' (uniq (xs.take i))) (uniq (xs.take i)).length →
      (∀ s', Moved (S :: wr) G s s' → s'.heap.SetOf (mixKind prog w) S (fun k' => memB k' (uniq xs)) (uniq xs).length → R (.ok (.ret .none)) s') →
      codeAny (model prog w) A (.builtin "set.update.loop" ⟨[.ref S, .ref I], []⟩) R s := by
  have hSw : S ∉ wr := fun h => hSf (W.sub _ h)
  have hsub : ∀ b ∈ wr, b ∈ S :: wr := fun b hb => List.mem_cons_of_mem _ hb
  intro k
  induction k with
  | zero =>
    intro i s hk hi hst hS hR
    have hin : i = n := by omega
    subst hin
    refine codeAny_builtin PyProof.Rows.F.entry_set_update_loop ?_
    rw [Around.under_plainId PyProof.Rows.F.plain_set_update_loop _]
    show wpAny _ A.in1 (pyNext (.ref I) >>= _) _ _ s
    refine wpAny_bind (W.done s _ _ hst fun s' hm => ?_)
    show wpAny _ A.in1 (ret Value.none) _ _ s'
    rw [List.take_of_length_le (by omega)] at hS
    exact wpAny_pure (hR s' (hm.mono hsub) (by
      obtain ⟨o, es, ep, t, ho, rest⟩ := hS
      exact ⟨o, es, ep, t, hm.heap S _ hSw ho, rest⟩))
  | succ k ih =>
    intro i s hk hi hst hS hR
    have hlt : i < n := by omega
    refine codeAny_builtin PyProof.Rows.F.entry_set_update_loop ?_
    rw [Around.under_plainId PyProof.Rows.F.plain_set_update_loop _]
    show wpAny _ A.in1 (pyNext (.ref I) >>= _) _ _ s
    refine wpAny_bind (W.item i s _ _ hlt hst fun v s' hP hst' hm => ?_)
    obtain ⟨key, hk1, hk2⟩ := hval i v hP
    have hS' : s'.heap.SetOf (mixKind prog w) S (fun k' => memB k' (uniq (xs.take i))) (uniq (xs.take i)).length := by
      obtain ⟨o, es, ep, tb, ho, rest⟩ := hS
      exact ⟨o, es, ep, tb, hm.heap S _ hSw ho, rest⟩
    show wpAny _ A.in1 (holding [v] (setAdd S v) >>= _) _ _ s'
    refine wpAny_bind (wpAny_holding ?_)
    unfold setAdd
    refine wpAny_holding ?_
    refine wpAny_bind ((mixKind prog w).pyHash (k := key) hk2 ?_)
    have hroom : (uniq (xs.take i)).length + 1 < scanBound := by
      have := uniq_le (xs.take i)
      rw [List.length_take] at this
      omega
    refine wpAny_setAddHashed_of (knd := mixKind prog w) (k := key) (s := { s' with toks := s'.toks + 1 }) hk2 (keyIs_scan hk2) hS' hroom fun h' hsb hS2 => ?_
    have hSi : h'.SetOf (mixKind prog w) S (fun k' => memB k' (uniq (xs.take (i + 1)))) (uniq (xs.take (i + 1))).length := by
      have et : xs.take (i + 1) = xs.take i ++ [key] := by rw [List.take_add_one, hk1] <;> rfl
      rw [et, uniq_snoc]
      by_cases e : key ∈ uniq (xs.take i)
      · have em := memB_iff.mpr e
        refine SetOf_congr hS2 (fun k' => ?_) ?_
        · rw [show uniqStep (uniq (xs.take i)) key = uniq (xs.take i) from if_pos e]
          show (memB k' (uniq (xs.take i)) || decide (k' = key)) = _
          by_cases e2 : k' = key
          · subst e2; rw [em] <;> rfl
          · rw [decide_eq_false e2, Bool.or_false]
        · rw [show uniqStep (uniq (xs.take i)) key = uniq (xs.take i) from if_pos e, em] <;> rfl
      · have em : memB key (uniq (xs.take i)) = false := by
          cases q : memB key (uniq (xs.take i)) with
          | false => rfl
          | true => exact absurd (memB_iff.mp q) e
        refine SetOf_congr hS2 (fun k' => ?_) ?_
        · rw [show uniqStep (uniq (xs.take i)) key = uniq (xs.take i) ++ [key] from if_neg e]
          show (memB k' (uniq (xs.take i)) || decide (k' = key)) = memB k' (uniq (xs.take i) ++ [key])
          unfold memB
          rw [List.any_append]
          congr 1
          show decide (k' = key) = ([key].any fun y => decide (y = k'))
          rw [List.any_cons, List.any_nil, Bool.or_false]
          by_cases e2 : k' = key
          · subst e2; rfl
          · rw [decide_eq_false e2, decide_eq_false (fun z => e2 z.symm)]
        · rw [show uniqStep (uniq (xs.take i)) key = uniq (xs.take i) ++ [key] from if_neg e, em, List.length_append] <;> rfl
    refine wpAny_pure ⟨plainId_quiet PyProof.Rows.F.plain_set_update_loop _, ih (i + 1) _ (by omega) hlt (W.frame _ s' _ _ hst' (Nat.le_succ _) fun b hb o e => ?_) hSi fun s'' hm'' hS'' => ?_⟩
    · rw [hsb.2 b (fun h : b = S => hSf (by rw [← h]; exact hb))]; exact e
    · refine hR s'' (Moved.trans W.gtrans ((hm.mono hsub).then_heap (Nat.le_succ _) fun b o hb e => ?_) hm'') hS''
      rw [hsb.2 b (fun h : b = S => hb (by rw [h]; exact List.mem_cons_self))]; exact e
end
section
variable {prog : Program} {w : World} {A : Around} {E : Value → Shared → Prop} {s : Shared}
set_option maxHeartbeats 3200000 in
theorem call_set_listK {l : Addr} {items : Array Value} {xs : List Key} {Q : Value → Shared → Prop}
    (hh : A.handled = none) (hl : s.heap.IsList l items) (hi : KeysAre items.toList xs) (hn1 : xs.length + 1 < scanBound)
    (h : ∀ (h' : Heap) (tk : Nat), h'.SetOf (mixKind prog w) s.heap.objs.size (fun k' => memB k' (uniq xs)) (uniq xs).length →
      (∀ b o, b < s.heap.objs.size → s.heap.get? b = some o → h'.get? b = some o) → Q (.ref s.heap.objs.size) { s with heap := h', toks := tk }) :
    wpAny (model prog w) A (call (.type "set") [.ref l]) Q E s := by
  obtain ⟨c, tl, hmro⟩ := PySem.F.called_set.mro
  have hmade := PySem.F.called_set.made
  have hsub := PySem.F.called_set.sub
  refine wpAny_call (codeAny_of_tree ?_)
  show wpAny _ _ (callAny (.type "set") _) _ _ _
  refine wpAny_pure ⟨Code.quiet_builtin _ (by decide +kernel), codeAny_builtin PySem.F.entry_type_call ?_⟩
  rw [Around.under_plain (weight_type_call_type "set" [.ref l] []) rfl]
  have h1 := PySem.F.called_set.notType
  have h2 := PySem.F.called_set.canCreate
  have hct := PySem.F.typeCall_set_1 (.ref l)
  repeat (any_goals (first | assumption | wp_step))

  refine codeAny_mono (code_set_new_1 (.ref l) (E := E) (Q₁ := fun obj s₁ => ∃ led : Bool, obj = .ref s.heap.objs.size ∧ s₁ = { s with heap := s.heap.push { cls := .type "set", dict := none, data := .set #[] 0 (.fresh 0 0 led) } }) fun led => ⟨led, rfl, rfl⟩) fun r s₁ hr => ?_
  cases r with
  | error e => exact hr
  | ok fl =>
    cases fl with
    | ret obj =>
      obtain ⟨led, rfl, rfl⟩ := hr
      have hS : (s.heap.push { cls := .type "set", dict := none, data := .set #[] 0 (.fresh 0 0 led) }).get? s.heap.objs.size = some { cls := .type "set", dict := none, data := .set #[] 0 (.fresh 0 0 led) } := Heap.get?_push_size _ rfl
      have hT : Shared.TypeIs { s with heap := s.heap.push { cls := .type "set", dict := none, data := .set #[] 0 (.fresh 0 0 led) } } (.ref s.heap.objs.size) "set" := ⟨_, hS, rfl⟩
      have hli := PySem.F.called_set.init.lookup
      have hbi := PySem.F.called_set.init.bind (.ref s.heap.objs.size)
      repeat (any_goals (first | assumption | wp_step))

      refine codeAny_mono (codeAny_call_builtin (R := wants (fun r s₂ => r = .none ∧ ∃ h' tk, s₂ = { s with heap := h', toks := tk } ∧
          h'.SetOf (mixKind prog w) s.heap.objs.size (fun k' => memB k' (uniq xs)) (uniq xs).length ∧
          (∀ b o, b < s.heap.objs.size → s.heap.get? b = some o → h'.get? b = some o)) E) PySem.F.called_set.init.plain PySem.F.entry_set_init (check_set_init_1 hT ?_)) fun r₂ s₂ hr₂ => ?_
      · obtain ⟨ol, hol, hcl, nl, hdl⟩ := hl
        obtain ⟨ocls, odict, odata, oslots⟩ := ol
        simp only at hcl hdl
        subst hcl; subst hdl
        have hol' : (s.heap.push { cls := .type "set", dict := none, data := .set #[] 0 (.fresh 0 0 led) }).get? l = some { cls := .type "list", dict := odict, data := .seq items nl, slots := oslots } := Heap.get?_push_of_some _ hol
        have hsls := PySem.F.sub_list_set
        have hslf := PySem.F.sub_list_frozenset
        have hne : (Value.type "list" == Value.type "dict") = false := by decide
        have hl1 : (s.heap.push { cls := .type "set", dict := none, data := .set #[] 0 (.fresh 0 0 led) }).IsList l items := ⟨_, hol', rfl, nl, rfl⟩
        unfold Builtin.«set.__init__» noKeywords Builtin.Frozenset.updateFrom
        generalize hPI : pyIter = PI
        wp_walk
        subst hPI

        refine wpAny_pyIter_list hl1 ?_
        refine wpAny_bind (wpAny_runValue ?_)
        have hlS : l < s.heap.objs.size := Heap.lt_size hol
        have hh3 : A.in1.in1.in1.handled = none := by simp [hh]
        have hneI : l ≠ (s.heap.push { cls := .type "set", dict := none, data := .set #[] 0 (.fresh 0 0 led) }).objs.size := by
          rw [Heap.size_push]; exact Nat.ne_of_lt (Nat.lt_succ_of_lt hlS)
        have hSf : s.heap.objs.size ∉ [(s.heap.push { cls := .type "set", dict := none, data := .set #[] 0 (.fresh 0 0 led) }).objs.size, l] := by
          rw [Heap.size_push]; simp only [List.mem_cons, List.mem_singleton, List.not_mem_nil, or_false, not_or]
          exact ⟨Nat.ne_of_lt (Nat.lt_succ_self _), Nat.ne_of_gt hlS⟩
        have hsz : xs.length = items.size := by rw [← hi.len, Array.length_toList]
        have hval : ∀ (i : Nat) (v : Value), items[i]? = some v → ∃ k, xs[i]? = some k ∧ keyIs k v = true := fun i v hv => hi.get (by rw [Array.getElem?_toList]; exact hv)
        refine loopKey ((Walks.list hh3 _ l hneI items).toS) s.heap.objs.size
          hSf xs hsz hn1 hval (items.size - 0) 0 _ (by omega) (Nat.zero_le _)
          ⟨⟨_, Heap.get?_push_size _ rfl, rfl, rfl⟩, (hl1.push _)⟩ ?hS0 ?hR
        case hS0 =>
          have hget : ((s.heap.push { cls := .type "set", dict := none, data := .set #[] 0 (.fresh 0 0 led) }).push { cls := .type "list_iterator", data := .fields #[.ref l, .int 0 0] }).get? s.heap.objs.size
              = some { cls := .type "set", dict := none, data := .set #[] 0 (.fresh 0 0 led) } := Heap.get?_push_of_some _ hS
          exact PyProof.Rows.SetOf_congr ((PyProof.Rows.setObjOf_fresh (knd := mixKind prog w) led).setOf hget (by unfold scanBound; omega)) (fun _ => rfl) rfl
        case hR =>
          intro s' hm hS'
          obtain ⟨h', g', d', tk', os'⟩ := s'
          have eg : g' = s.gens := hm.gens
          have ed : d' = s.drawn := hm.drawn
          have eo : os' = s.os := hm.os
          subst eg; subst ed; subst eo
          show wpAny _ _ _ _ _ _
          refine wpAny_pure ?_
          show wpAny _ _ (ret Value.none) _ _ _
          refine wpAny_pure ⟨rfl, h', tk', rfl, hS', fun b o hb e => ?_⟩
          have hb1 : b ≠ s.heap.objs.size := Nat.ne_of_lt hb
          have hb2 : b ≠ (s.heap.push { cls := .type "set", dict := none, data := .set #[] 0 (.fresh 0 0 led) }).objs.size := by
            rw [Heap.size_push]; exact Nat.ne_of_lt (Nat.lt_succ_of_lt hb)
          exact hm.heap b o (by simp only [List.mem_cons, List.mem_singleton, List.not_mem_nil, or_false, not_or]; exact ⟨hb1, hb2⟩) (Heap.get?_push_of_some _ (Heap.get?_push_of_some _ e))

      · cases r₂ with
        | error e => exact hr₂
        | ok fl₂ =>
          cases fl₂ with
          | ret r =>
            obtain ⟨rfl, h', tk, rfl, hS', hk'⟩ := hr₂
            repeat (any_goals (first | assumption | wp_step))
            exact h _ _ hS' hk'
          | _ => exact hr₂.elim
    | _ => exact hr.elim


set_option maxHeartbeats 3200000 in
theorem call_set_tupleK {l : Addr} {items : Array Value} {xs : List Key} {Q : Value → Shared → Prop}
    (hh : A.handled = none) (hl : s.heap.IsTuple l items) (hi : KeysAre items.toList xs) (hn1 : xs.length + 1 < scanBound)
    (h : ∀ (h' : Heap) (tk : Nat), h'.SetOf (mixKind prog w) s.heap.objs.size (fun k' => memB k' (uniq xs)) (uniq xs).length →
      (∀ b o, b < s.heap.objs.size → s.heap.get? b = some o → h'.get? b = some o) → Q (.ref s.heap.objs.size) { s with heap := h', toks := tk }) :
    wpAny (model prog w) A (call (.type "set") [.ref l]) Q E s := by
  obtain ⟨c, tl, hmro⟩ := PySem.F.called_set.mro
  have hmade := PySem.F.called_set.made
  have hsub := PySem.F.called_set.sub
  refine wpAny_call (codeAny_of_tree ?_)
  show wpAny _ _ (callAny (.type "set") _) _ _ _
  refine wpAny_pure ⟨Code.quiet_builtin _ (by decide +kernel), codeAny_builtin PySem.F.entry_type_call ?_⟩
  rw [Around.under_plain (weight_type_call_type "set" [.ref l] []) rfl]
  have h1 := PySem.F.called_set.notType
  have h2 := PySem.F.called_set.canCreate
  have hct := PySem.F.typeCall_set_1 (.ref l)
  repeat (any_goals (first | assumption | wp_step))

  refine codeAny_mono (code_set_new_1 (.ref l) (E := E) (Q₁ := fun obj s₁ => ∃ led : Bool, obj = .ref s.heap.objs.size ∧ s₁ = { s with heap := s.heap.push { cls := .type "set", dict := none, data := .set #[] 0 (.fresh 0 0 led) } }) fun led => ⟨led, rfl, rfl⟩) fun r s₁ hr => ?_
  cases r with
  | error e => exact hr
  | ok fl =>
    cases fl with
    | ret obj =>
      obtain ⟨led, rfl, rfl⟩ := hr
      have hS : (s.heap.push { cls := .type "set", dict := none, data := .set #[] 0 (.fresh 0 0 led) }).get? s.heap.objs.size = some { cls := .type "set", dict := none, data := .set #[] 0 (.fresh 0 0 led) } := Heap.get?_push_size _ rfl
      have hT : Shared.TypeIs { s with heap := s.heap.push { cls := .type "set", dict := none, data := .set #[] 0 (.fresh 0 0 led) } } (.ref s.heap.objs.size) "set" := ⟨_, hS, rfl⟩
      have hli := PySem.F.called_set.init.lookup
      have hbi := PySem.F.called_set.init.bind (.ref s.heap.objs.size)
      repeat (any_goals (first | assumption | wp_step))

      refine codeAny_mono (codeAny_call_builtin (R := wants (fun r s₂ => r = .none ∧ ∃ h' tk, s₂ = { s with heap := h', toks := tk } ∧
          h'.SetOf (mixKind prog w) s.heap.objs.size (fun k' => memB k' (uniq xs)) (uniq xs).length ∧
          (∀ b o, b < s.heap.objs.size → s.heap.get? b = some o → h'.get? b = some o)) E) PySem.F.called_set.init.plain PySem.F.entry_set_init (check_set_init_1 hT ?_)) fun r₂ s₂ hr₂ => ?_
      · obtain ⟨ol, hol, hcl, nl, hdl⟩ := hl
        obtain ⟨ocls, odict, odata, oslots⟩ := ol
        simp only at hcl hdl
        subst hcl; subst hdl
        have hol' : (s.heap.push { cls := .type "set", dict := none, data := .set #[] 0 (.fresh 0 0 led) }).get? l = some { cls := .type "tuple", dict := odict, data := .seq items nl, slots := oslots } := Heap.get?_push_of_some _ hol
        have hsls := PySem.F.sub_tuple_set
        have hslf := PySem.F.sub_tuple_frozenset
        have hne : (Value.type "tuple" == Value.type "dict") = false := by decide
        have hl1 : (s.heap.push { cls := .type "set", dict := none, data := .set #[] 0 (.fresh 0 0 led) }).IsTuple l items := ⟨_, hol', rfl, nl, rfl⟩
        unfold Builtin.«set.__init__» noKeywords Builtin.Frozenset.updateFrom
        generalize hPI : pyIter = PI
        wp_walk
        subst hPI

        refine wpAny_pyIter_tuple hl1 ?_
        refine wpAny_bind (wpAny_runValue ?_)
        have hlS : l < s.heap.objs.size := Heap.lt_size hol
        have hh3 : A.in1.in1.in1.handled = none := by simp [hh]
        have hneI : l ≠ (s.heap.push { cls := .type "set", dict := none, data := .set #[] 0 (.fresh 0 0 led) }).objs.size := by
          rw [Heap.size_push]; exact Nat.ne_of_lt (Nat.lt_succ_of_lt hlS)
        have hSf : s.heap.objs.size ∉ [(s.heap.push { cls := .type "set", dict := none, data := .set #[] 0 (.fresh 0 0 led) }).objs.size, l] := by
          rw [Heap.size_push]; simp only [List.mem_cons, List.mem_singleton, List.not_mem_nil, or_false, not_or]
          exact ⟨Nat.ne_of_lt (Nat.lt_succ_self _), Nat.ne_of_gt hlS⟩
        have hsz : xs.length = items.size := by rw [← hi.len, Array.length_toList]
        have hval : ∀ (i : Nat) (v : Value), items[i]? = some v → ∃ k, xs[i]? = some k ∧ keyIs k v = true := fun i v hv => hi.get (by rw [Array.getElem?_toList]; exact hv)
        refine loopKey ((Walks.tuple hh3 _ l hneI items).toS) s.heap.objs.size
          hSf xs hsz hn1 hval (items.size - 0) 0 _ (by omega) (Nat.zero_le _)
          ⟨⟨_, Heap.get?_push_size _ rfl, rfl, rfl⟩, (hl1.push _)⟩ ?hS0 ?hR
        case hS0 =>
          have hget : ((s.heap.push { cls := .type "set", dict := none, data := .set #[] 0 (.fresh 0 0 led) }).push { cls := .type "tuple_iterator", data := .fields #[.ref l, .int 0 0] }).get? s.heap.objs.size
              = some { cls := .type "set", dict := none, data := .set #[] 0 (.fresh 0 0 led) } := Heap.get?_push_of_some _ hS
          exact PyProof.Rows.SetOf_congr ((PyProof.Rows.setObjOf_fresh (knd := mixKind prog w) led).setOf hget (by unfold scanBound; omega)) (fun _ => rfl) rfl
        case hR =>
          intro s' hm hS'
          obtain ⟨h', g', d', tk', os'⟩ := s'
          have eg : g' = s.gens := hm.gens
          have ed : d' = s.drawn := hm.drawn
          have eo : os' = s.os := hm.os
          subst eg; subst ed; subst eo
          show wpAny _ _ _ _ _ _
          refine wpAny_pure ?_
          show wpAny _ _ (ret Value.none) _ _ _
          refine wpAny_pure ⟨rfl, h', tk', rfl, hS', fun b o hb e => ?_⟩
          have hb1 : b ≠ s.heap.objs.size := Nat.ne_of_lt hb
          have hb2 : b ≠ (s.heap.push { cls := .type "set", dict := none, data := .set #[] 0 (.fresh 0 0 led) }).objs.size := by
            rw [Heap.size_push]; exact Nat.ne_of_lt (Nat.lt_succ_of_lt hb)
          exact hm.heap b o (by simp only [List.mem_cons, List.mem_singleton, List.not_mem_nil, or_false, not_or]; exact ⟨hb1, hb2⟩) (Heap.get?_push_of_some _ (Heap.get?_push_of_some _ e))

      · cases r₂ with
        | error e => exact hr₂
        | ok fl₂ =>
          cases fl₂ with
          | ret r =>
            obtain ⟨rfl, h', tk, rfl, hS', hk'⟩ := hr₂
            repeat (any_goals (first | assumption | wp_step))
            exact h _ _ hS' hk'
          | _ => exact hr₂.elim
    | _ => exact hr.elim


end
end DL

set_option Elab.async false
set_option linter.all false
set_option maxRecDepth 100000
set_option maxHeartbeats 4000000
set_option autoImplicit false
namespace DL
open PySem PySem.Spec PyProof.Rows L2
/-! ### len(set(xs)) -/
def keyD : D → Option Key
  | .int i => some (.inl i) | .str x => some (.inr x) | _ => none
def keysD : List D → Option (List Key)
  | [] => some []
  | d :: ds => match keyD d, keysD ds with | some k, some ks => some (k :: ks) | _, _ => none
theorem keyD_ok {K : PySem.W.Frag} {H : Hp} {N : Ns} {d : D} {v : V} {k : Key} (r : RD K H N d v) (h : keyD d = some k) : v = kV k := by
  cases d with
  | int i => cases h; exact r.of_int
  | str i => cases h; exact r.of_str
  | _ => cases h
theorem keysD_ok {K : PySem.W.Frag} {H : Hp} {N : Ns} : ∀ {ds : List D} {vs : List V} {ks : List Key}, RDs K H N ds vs → keysD ds = some ks → vs = ks.map kV
  | [], _, _, r, h => by cases h; exact r.of_nil
  | d :: ds, _, _, r, h => by
    obtain ⟨v, vs, rfl, r1, r2⟩ := r.of_cons
    unfold keysD at h
    split at h
    · rename_i k ks e1 e2
      cases h
      rw [keyD_ok r1 e1, keysD_ok r2 e2] <;> rfl
    · cases h
theorem keyIs_of {k : Key} {u : Value} (r : RelV (kV k) u) : keyIs k u = true := by
  cases k with
  | inl i => obtain ⟨t, rfl⟩ := r; exact keyIs_int i t
  | inr i => obtain ⟨t, rfl⟩ := r; exact keyIs_str i t
theorem keysAre_of : ∀ {ks : List Key} {us : List Value}, Vals (ks.map kV) us → KeysAre us ks
  | [], _, .nil => .nil
  | k :: ks, _, .cons r t => .cons (keyIs_of r) (keysAre_of t)
section
variable {X : Cx}
def tLenSetK (K : PySem.W.Frag) (ta : TE) : TE := fun σ H Q => ta σ H fun x H1 => ∃ l, ∃ ks : List Key, x = .ref l ∧ (SqL K H1 l (ks.map kV) ∨ SqT K H1 l (ks.map kV)) ∧ ks.length + 1 < scanBound ∧ Q (.int (uniq ks).length) H1
theorem pe_lenSetK {a : Expr} {ta : TE} {p p2 q pos : Pos} (hc : X.calm = true) (hg : Gl X "len") (hm : X.mg "len" = none) (hg2 : Gl X "set") (hm2 : X.mg "set" = none) (ha : PE X a ta)
    (na : starEach [a] X.env = (false, eval a X.env) :: starEach [] X.env := by rfl) : PE X (.Call (.Name "len" p) [.Call (.Name "set" p2) [a] [] q] [] pos) (tLenSetK X.K ta) := by
  refine ⟨fun pins s σ H Q I h => ?_⟩
  refine Call_ (ld_blt I hg hm boot_len (PyProof.Rows.callWith_builtin1 (PyProof.Rows.args_cons ?_ rfl) rfl rfl))
  refine Call_ (ld_blt I hg2 hm2 boot_set (PyProof.Rows.callWith_type1 (PyProof.Rows.args_cons (thn (ha.run pins s σ H _ I h) fun v s1 ⟨x, H1, I1, r1, q1⟩ => PyProof.Rows.args_nil ?_) na) na rfl))
  obtain ⟨l, ks, rfl, hq, h1, q1⟩ := q1
  cases r1
  have fin : ∀ (h' : Heap) (tk : Nat), h'.SetOf (mixKind X.prog X.w) s1.heap.objs.size (fun k' => memB k' (uniq ks)) (uniq ks).length →
      (∀ b o, b < s1.heap.objs.size → s1.heap.get? b = some o → h'.get? b = some o) →
      wpAny (model X.prog X.w) X.A (spliced (backTo pos (starEach [] X.env))) (fun vs s2 => wpAny (model X.prog X.w) X.A (call (.builtin "len") (Value.ref s1.heap.objs.size :: vs)) (EP X pins σ Q) X.xe s2) X.xe { s1 with heap := h', toks := tk } := fun h' tk hS hk => by
    refine PyProof.Rows.args_nil ?_
    obtain ⟨o, es, ep, t, ho, hex, hd, _, _, hb, hf, hn⟩ := hS
    have I2 : Inv X pins σ H1 { s1 with heap := h', toks := tk } := I1.kept fun b o e => hk b o (Heap.lt_size e) e
    have hsb : (scanBound : Int) ≤ 2 ^ 63 := by unfold scanBound; decide
    exact call_len_set ho hex hd hf (by omega) ⟨.int (uniq ks).length, H1, I2.tok _, ⟨_, by rw [hn]⟩, q1⟩
  rcases hq with hq | hq
  · obtain ⟨its, r, pl, hz⟩ := I1.list hq
    exact call_set_listK (I1.ok.hd hc) pl.isList (by simpa using keysAre_of r) h1 fun h' tk hS hk => fin h' tk hS hk
  · obtain ⟨its, r, pl, hz⟩ := I1.tuple hq
    exact call_set_tupleK (I1.ok.hd hc) pl (by simpa using keysAre_of r) h1 fun h' tk hS hk => fin h' tk hS hk
def dLenSet (te : DE) : DE := fun σ G R => te σ G fun x G1 => match (seqOf G1 x).bind keysD with | some ks => ks.length + 1 < scanBound ∧ R (.int (uniq ks).length) G1 | none => False
theorem qe_lenSet {a : Expr} {ta : DE} {p p2 q pos : Pos} (hc : X.calm = true) (hg : Gl X "len") (hm : X.mg "len" = none) (hg2 : Gl X "set") (hm2 : X.mg "set" = none) (ha : QE X a ta)
    (na : starEach [a] X.env = (false, eval a X.env) :: starEach [] X.env := by rfl) : QE X (.Call (.Name "len" p) [.Call (.Name "set" p2) [a] [] q] [] pos) (dLenSet ta) := pe_mono (pe_lenSetK hc hg hm hg2 hm2 ha na) fun τ H Q h => by
  obtain ⟨σ, G, N, R, hs, hgg, ht, q⟩ := h
  refine ⟨σ, G, N, _, hs, hgg, ht, fun x G1 N1 v1 H1 h1 s1 r1 => ?_⟩
  split at h1
  · rename_i ks e
    cases e2 : seqOf G1 x with
    | none => rw [e2] at e; cases e
    | some ds =>
      rw [e2] at e
      obtain ⟨p, vs, rfl, sq, r⟩ := seqOf_ok s1.rel r1 e2
      have e3 := keysD_ok r (show keysD ds = some ks from e)
      subst e3
      exact ⟨p, ks, rfl, sq, h1.1, (q.le s1).at s1.rel h1.2 (RD.int _)⟩
  · exact h1.elim
/-! ### what is walked -/
def iSeq (K : PySem.W.Frag) (tl : TE) : TI := fun σ H R => tl σ H fun x H1 => (∃ a, x = .ref a ∧ (∃ xs, SqL K H1 a xs) ∧ R (Itl K a) H1) ∨ (∃ a, x = .ref a ∧ (∃ xs, SqT K H1 a xs) ∧ R (Itt K a) H1) ∨ ∃ z, x = .str z ∧ R (Its z) H1
theorem pi_seq {tg l : Expr} {tl : TE} (hl : PE X l tl) : PI X tg l (iSeq X.K tl) := by
  refine ⟨fun pins s σ H R I h => thn (hl.run pins s σ H _ I h) fun v s1 ⟨x, H1, I1, r1, q1⟩ => ?_⟩
  rcases q1 with ⟨a, e, ⟨xs, hq⟩, q⟩ | ⟨a, e, ⟨xs, hq⟩, q⟩ | ⟨z, e, q⟩
  · subst e
    have hp : PE X l (fun _ _ Q => True) → True := fun _ => True.intro
    cases r1
    obtain ⟨its, rv, p, hz⟩ := I1.list hq
    exact wpAny_pyIter_list p.isList (pi_one (tk := s1.toks) I1 _ (turn_list a _) ⟨_, Heap.get?_push_size _ rfl, rfl, rfl⟩ q)
  · subst e
    cases r1
    obtain ⟨its, rv, p, hz⟩ := I1.tuple hq
    exact wpAny_pyIter_tuple (show s1.heap.IsTuple a its.toArray from p) (pi_one (tk := s1.toks) I1 _ (turn_tuple a _) ⟨_, Heap.get?_push_size _ rfl, rfl, rfl⟩ q)
  · subst e
    obtain ⟨t, rfl⟩ := r1
    cases ha : z.cps.all (· < 128)
    · exact wpAny_pyIter_wide ha (pi_one (tk := s1.toks) I1 _ (turn_str _ z t "str_iterator" (.inr rfl)) ⟨_, Heap.get?_push_size _ rfl, rfl, rfl⟩ q)
    · exact wpAny_pyIter_ascii ha (pi_one (tk := s1.toks) I1 _ (turn_str _ z t "str_ascii_iterator" (.inl rfl)) ⟨_, Heap.get?_push_size _ rfl, rfl, rfl⟩ q)
/-- a text's signsD -/
def signsD (z : Str) : List D := z.cps.toList.map fun c => .str ⟨#[c]⟩
def dIter (te : DE) : DI := fun σ G R => te σ G fun x G1 => match x with
  | .tup ds => R ds (fun _ => True) G1
  | .nt zs => R (zs.map .str) (fun _ => True) G1
  | .lst ds => R ds (fun _ => True) G1
  | .str z => R (signsD z) (fun _ => True) G1
  | .ref a => match G1 a with | some (.lst ds) => R ds (fun G => G a = some (.lst ds)) G1 | _ => False
  | _ => False
theorem yl_list {K : PySem.W.Frag} {H0 : Hp} {N0 : Ns} {G0 : Gp} {a : Addr} {ds : List D} {gd : Gp → Prop} (h : ∀ H N G, Stp K H0 N0 G0 H N G → gd G → ∃ vs, SqL K H a vs ∧ RDs K H N ds vs) : Yl K (Itl K a) H0 N0 G0 ds gd := by
  refine Yl.of (fun i H N G d s g e => ?_) (fun i H N G s g e => ?_)
  · obtain ⟨vs, sq, r⟩ := h H N G s g
    obtain ⟨v, hv, rv⟩ := r.get e
    refine ⟨⟨vs, v, sq, hv⟩, fun x H' y => ?_⟩
    obtain ⟨rfl, y⟩ := y
    have e2 := y vs sq
    rw [hv] at e2; cases e2
    exact ⟨Stp.refl s.rel, rv⟩
  · obtain ⟨vs, sq, r⟩ := h H N G s g
    exact ⟨vs, sq, by rw [← r.length]; exact e⟩
theorem yl_tup {K : PySem.W.Frag} {H0 : Hp} {N0 : Ns} {G0 : Gp} {a : Addr} {ds : List D} {vs : List V} (sq : SqT K H0 a vs) (r : RDs K H0 N0 ds vs) : Yl K (Itt K a) H0 N0 G0 ds fun _ => True := by
  refine Yl.of (fun i H N G d s g e => ?_) (fun i H N G s g e => ?_)
  · obtain ⟨v, hv, rv⟩ := (r.le s.kp).get e
    have sq' := SqT.le s.kp.kle sq
    refine ⟨⟨vs, v, sq', hv⟩, fun x H' y => ?_⟩
    obtain ⟨rfl, y⟩ := y
    have e2 := y vs sq'
    rw [hv] at e2; cases e2
    exact ⟨Stp.refl s.rel, rv⟩
  · exact ⟨vs, SqT.le s.kp.kle sq, by rw [← r.length]; exact e⟩
theorem yl_str {K : PySem.W.Frag} {H0 : Hp} {N0 : Ns} {G0 : Gp} {z : Str} : Yl K (Its z) H0 N0 G0 (signsD z) fun _ => True := by
  refine Yl.of (fun i H N G d s g e => ?_) (fun i H N G s g e => ?_)
  · unfold signsD at e
    rw [List.getElem?_map] at e
    cases ec : z.cps.toList[i]? with
    | none => rw [ec] at e; cases e
    | some c =>
      rw [ec] at e
      cases e
      have ec' : z.cps[i]? = some c := by rw [← Array.getElem?_toList]; exact ec
      refine ⟨(Array.getElem?_eq_some_iff.mp ec').1, fun x H' y => ?_⟩
      obtain ⟨rfl, c', e', rfl⟩ := y
      rw [ec'] at e'; cases e'
      exact ⟨Stp.refl s.rel, RD.str _⟩
  · unfold signsD at e
    rw [List.length_map, Array.length_toList] at e
    exact e
theorem qi_seq {tg l : Expr} {te : DE} (hl : QE X l te) : QI X tg l (dIter te) := pi_mono (pi_seq hl) fun τ H Q h => by
  obtain ⟨σ, G, N, R, hs, hg, ht, q⟩ := h
  refine ⟨σ, G, N, _, hs, hg, ht, fun x G1 N1 v1 H1 h1 s1 r1 => ?_⟩
  split at h1
  · obtain ⟨p, vs, rfl, sq, r⟩ := r1.of_tup
    exact .inr (.inl ⟨p, rfl, ⟨vs, sq⟩, q _ _ _ _ _ _ h1 s1 (yl_tup sq r)⟩)
  · obtain ⟨p, vs, rfl, sq, r⟩ := r1.nt_tup.of_tup
    exact .inr (.inl ⟨p, rfl, ⟨vs, sq⟩, q _ _ _ _ _ _ h1 s1 (yl_tup sq r)⟩)
  · obtain ⟨p, vs, rfl, sq, r⟩ := r1.of_lst
    exact .inl ⟨p, rfl, ⟨vs, sq.sq⟩, q _ _ _ _ _ _ h1 s1 (yl_list fun H N G s _ => ⟨vs, (sq.le s.kp).sq, r.le s.kp⟩)⟩
  · obtain rfl := r1.of_str
    exact .inr (.inr ⟨_, rfl, q _ _ _ _ _ _ h1 s1 yl_str⟩)
  · obtain rfl := r1.of_ref
    split at h1
    · rename_i ds e
      obtain ⟨_, vs, hv, r⟩ := s1.rel _ _ e
      exact .inl ⟨_, rfl, ⟨vs, SqL.of hv⟩, q _ _ _ _ _ _ h1 s1 (yl_list fun H N G s g => by
        obtain ⟨_, vs, hv, r⟩ := s.rel _ _ g
        exact ⟨vs, SqL.of hv, r⟩)⟩
    · exact h1.elim
  · exact h1.elim
/-- range(n) -/
def rng (lo : Int) (n : Nat) : List D := (List.range n).map fun i => .int (lo + (i : Nat))
theorem rng_length (lo : Int) (n : Nat) : (rng lo n).length = n := by unfold rng; rw [List.length_map, List.length_range]
theorem yl_rng {K : PySem.W.Frag} {H0 : Hp} {N0 : Ns} {G0 : Gp} {lo : Int} {n : Nat} : Yl K (Itr lo n) H0 N0 G0 (rng lo n) fun _ => True := by
  refine Yl.of (fun i H N G d s g e => ?_) (fun i H N G s g e => ?_)
  · have hi : i < n := by
      have := (List.getElem?_eq_some_iff.mp e).1
      rwa [rng_length] at this
    unfold rng at e
    rw [List.getElem?_map, List.getElem?_range hi] at e
    cases e
    refine ⟨hi, fun x H' y => ?_⟩
    obtain ⟨rfl, rfl⟩ := y
    exact ⟨Stp.refl s.rel, RD.int _⟩
  · rw [rng_length] at e; exact e
def dRng1 (ta : DA) : DI := fun σ G R => ta σ G fun ds G1 => match ds with | [.int j] => -(2 ^ 62) ≤ j ∧ j < 2 ^ 62 ∧ R (rng 0 j.toNat) (fun _ => True) G1 | _ => False
theorem qi_range1 {tg a : Expr} {ta : DA} {p pos : Pos} (hg : Gl X "range") (hm : X.mg "range" = none) (ha : QA X [a] ta) (hs : starEach [a] X.env = [(false, eval a X.env)] := by rfl) : QI X tg (.Call (.Name "range" p) [a] [] pos) (dRng1 ta) := pi_mono (pi_range1 hg hm ha hs) fun τ H Q h => by
  obtain ⟨σ, G, N, R, hs, hg, ht, q⟩ := h
  refine ⟨σ, G, N, _, hs, hg, ht, fun ds G1 N1 vs H1 h1 s1 r1 => ?_⟩
  split at h1
  · rename_i j
    obtain ⟨v, r, rfl, r2, r3⟩ := r1.of_cons
    rw [r3.of_nil, r2.of_int]
    exact ⟨j, rfl, h1.1, h1.2.1, q _ _ _ _ _ _ h1.2.2 s1 yl_rng⟩
  · exact h1.elim
/-- enumerate(list) -/
def enumD (lo : Int) : List D → List D
  | [] => []
  | d :: ds => .tup [.int lo, d] :: enumD (lo + 1) ds
theorem enumD_get : ∀ (ds : List D) (lo : Int) (i : Nat), (enumD lo ds)[i]? = (ds[i]?).map fun d => .tup [.int (lo + i), d]
  | [], lo, i => by simp [enumD]
  | d :: ds, lo, 0 => by simp [enumD]
  | d :: ds, lo, i + 1 => by
    rw [enumD, List.getElem?_cons_succ, List.getElem?_cons_succ, enumD_get ds (lo + 1) i]
    congr 1
    funext x
    rw [show lo + 1 + (i : Int) = lo + ((i + 1 : Nat) : Int) by push_cast; omega]
theorem enumD_length : ∀ (ds : List D) (lo : Int), (enumD lo ds).length = ds.length
  | [], _ => rfl
  | d :: ds, lo => by rw [enumD, List.length_cons, List.length_cons, enumD_length ds]
theorem yl_enum {K : PySem.W.Frag} {H0 : Hp} {N0 : Ns} {G0 : Gp} {a : Addr} {ds : List D} {gd : Gp → Prop} (h : ∀ H N G, Stp K H0 N0 G0 H N G → gd G → ∃ vs, SqL K H a vs ∧ RDs K H N ds vs) : Yl K (Ite K a) H0 N0 G0 (enumD 0 ds) gd := by
  refine Yl.of (fun i H N G d s g e => ?_) (fun i H N G s g e => ?_)
  · obtain ⟨vs, sq, r⟩ := h H N G s g
    rw [enumD_get] at e
    cases ed : ds[i]? with
    | none => rw [ed] at e; cases e
    | some d0 =>
      rw [ed] at e
      cases e
      obtain ⟨v, hv, rv⟩ := r.get ed
      refine ⟨⟨vs, v, sq, hv⟩, fun x H' y => ?_⟩
      obtain ⟨T, x1, rfl, nT, rfl, y⟩ := y
      have e2 := y vs sq
      rw [hv] at e2; cases e2
      have s2 := Stp.new0 (u := .tup [.int ((i : Nat) : Int), v]) s.rel nT
      refine ⟨s2, RD.tup (.inl (.inl upd_same)) (RDs.cons ?_ (RDs.cons (rv.le s2.kp) RDs.nil))⟩
      rw [Int.zero_add]
      exact RD.int _
  · obtain ⟨vs, sq, r⟩ := h H N G s g
    rw [enumD_length] at e
    exact ⟨vs, sq, by rw [← r.length]; exact e⟩
def dEnum (ta : DA) : DI := fun σ G R => ta σ G fun ds G1 => match ds with
  | [.lst xs] => R (enumD 0 xs) (fun _ => True) G1
  | [.ref a] => (match G1 a with | some (.lst xs) => R (enumD 0 xs) (fun G => G a = some (.lst xs)) G1 | _ => False)
  | _ => False
theorem qi_enum {e : Expr} {ta : DA} {p pos tpos : Pos} {elts : List Expr} {kk : Nat} (hg : Gl X "enumerate") (hm : X.mg "enumerate" = none) (ha : QA X [e] ta) (hs : starEach [e] X.env = [(false, eval e X.env)] := by rfl) :
    QI X (.Tuple elts kk tpos) (.Call (.Name "enumerate" p) [e] [] pos) (dEnum ta) := pi_mono (pi_enum hg hm ha hs) fun τ H Q h => by
  obtain ⟨σ, G, N, R, hs, hg, ht, q⟩ := h
  refine ⟨σ, G, N, _, hs, hg, ht, fun ds G1 N1 vs H1 h1 s1 r1 => ?_⟩
  split at h1
  · obtain ⟨v, r, rfl, r2, r3⟩ := r1.of_cons
    rw [r3.of_nil]
    obtain ⟨p, vs, rfl, sq, r⟩ := r2.of_lst
    exact ⟨p, vs, rfl, sq.sq, q _ _ _ _ _ _ h1 s1 (yl_enum fun H N G s _ => ⟨vs, (sq.le s.kp).sq, r.le s.kp⟩)⟩
  · obtain ⟨v, r, rfl, r2, r3⟩ := r1.of_cons
    rw [r3.of_nil]
    obtain rfl := r2.of_ref
    split at h1
    · rename_i xs e
      obtain ⟨_, vs, hv, r⟩ := s1.rel _ _ e
      exact ⟨_, vs, rfl, SqL.of hv, q _ _ _ _ _ _ h1 s1 (yl_enum fun H N G s g => by
        obtain ⟨_, vs, hv, r⟩ := s.rel _ _ g
        exact ⟨vs, SqL.of hv, r⟩)⟩
    · exact h1.elim
  · exact h1.elim
/-! ### f(k = v, ..) -/
variable {k : Nat} {f : Addr} {fd : FuncData} {ps ks : List Str} {sp : DSp} {x : Str} {p pos : Pos} {kws : List Keyword} {tk : DA}
/-- by names alone: the promise is asked at the values in the parameters' order (g) -/
def dCallK (sp : DSp) (g : List D → List D) (n : Nat) (tk : DA) : DE := fun σ G R => tk σ G fun ds G1 => ds.length = n ∧ sp (g ds) G1 R
end
end DL

set_option Elab.async false
set_option linter.all false
set_option maxRecDepth 100000
set_option maxHeartbeats 4000000
set_option autoImplicit false
namespace DL
open PySem PySem.Spec PyProof.Rows L2
section
variable {X : Cx}
theorem qe_globI {x : Str} {i : Int} {pos : Pos} (hg : Gl X x) (hm : ∃ t, X.mg x = some (.int i t)) (hd : (x == ("__debug__" : Str)) = false := by decide) : QE X (.Name x pos) (dC (.int i)) := by
  obtain ⟨t, h⟩ := hm
  exact qe_glob (v := .int i) hg h ⟨t, rfl⟩ (fun _ _ => RD.int i) hd
theorem qe_globS {x : Str} {i : Str} {pos : Pos} (hg : Gl X x) (hm : ∃ t, X.mg x = some (.str i t)) (hd : (x == ("__debug__" : Str)) = false := by decide) : QE X (.Name x pos) (dC (.str i)) := by
  obtain ⟨t, h⟩ := hm
  exact qe_glob (v := .str i) hg h ⟨t, rfl⟩ (fun _ _ => RD.str i) hd
end
end DL

set_option Elab.async false
set_option linter.all false
set_option maxRecDepth 100000
set_option maxHeartbeats 4000000
set_option autoImplicit false
namespace DL
open PySem PySem.Spec PyProof.Rows L2
/-! ### readings -/
theorem at_K {K : PySem.W.Frag} {h : Heap} (_ : K.In h) (Q : PySem.W.Frag → Prop) (q : Q K) : Q K := q
theorem ret_same {R : DK} {d : D} {G : Gp} (h : R d G) : ∃ d' G', Wk G d d' G' ∧ R d' G' := ⟨d, G, .same (Sub.refl G), h⟩
theorem ret_sub {R : DK} {d : D} {G G0 : Gp} (s : Sub G0 G) (h : R d G0) : ∃ d' G', Wk G d d' G' ∧ R d' G' := ⟨d, G0, .same s, h⟩
theorem ret_lst {R : DK} {p : Addr} {ds : List D} {G G0 : Gp} (e : G p = some (.lst ds)) (s : Sub G0 G) (n : G0 p = none) (h : R (.lst ds) G0) : ∃ d' G', Wk G (.ref p) d' G' ∧ R d' G' := ⟨_, G0, .lst e s n, h⟩
theorem lc_pure {g : DG} {te : DE} {σ : Sd} {gd : Gp → Prop} {G : Gp} (f : D → D) (hg : gd G) : ∀ (xs acc : List D), (∀ x ∈ xs, ∀ Q : DK, Q (f x) G → g x σ G fun σ2 G2 => te σ2 G2 Q) → ∀ Q : List D → Gp → Prop, Q (acc ++ xs.map f) G → dLcGo g dYes te gd σ xs acc G Q
  | [], acc, _, Q, h => ⟨hg, by simpa using h⟩
  | x :: xs, acc, hf, Q, h => ⟨hg, hf x List.mem_cons_self _ (lc_pure f hg xs (acc ++ [f x]) (fun y hy => hf y (List.mem_cons_of_mem _ hy)) Q (by simpa using h))⟩
theorem lc_filter {g : DG} {tt : DT} {te : DE} {σ : Sd} {gd : Gp → Prop} {G : Gp} (p : D → Bool) (f : D → D) (hg : gd G) : ∀ (xs acc : List D), (∀ x ∈ xs, ∀ (Q : DK) (Q0 : Gp → Prop), (p x = true → Q (f x) G) → (p x = false → Q0 G) → g x σ G fun σ2 G2 => tt σ2 G2 fun b G3 => match b with | true => te σ2 G3 Q | false => Q0 G3) →
    ∀ Q : List D → Gp → Prop, Q (acc ++ (xs.filter p).map f) G → dLcGo g tt te gd σ xs acc G Q
  | [], acc, _, Q, h => ⟨hg, by simpa using h⟩
  | x :: xs, acc, hf, Q, h => ⟨hg, hf x List.mem_cons_self _ _ (fun hp => lc_filter p f hg xs (acc ++ [f x]) (fun y hy => hf y (List.mem_cons_of_mem _ hy)) Q (by simpa [hp] using h)) fun hp => lc_filter p f hg xs acc (fun y hy => hf y (List.mem_cons_of_mem _ hy)) Q (by simpa [hp] using h)⟩
theorem fnd_never {P : Program} {w : World} {K : PySem.W.Frag} {mg : Str → Option Value} {base : Heap} {k : Nat} {f : Addr} {fd : FuncData} {ps : List Str} : FnD P w K mg base k f fd ps (fun _ _ _ => False) :=
  ⟨fun vs H Q E h => by obtain ⟨_, _, _, _, _, _, h, _⟩ := h; exact h.elim, fun A outer s H args us vs Q E _ _ _ _ h => by obtain ⟨_, _, _, _, _, _, h, _⟩ := h; exact h.elim⟩
theorem gup_comm {G : Gp} {a b : Addr} {o u : GO} (h : a ≠ b) : gup (gup G a o) b u = gup (gup G b u) a o := by
  funext c; unfold gup
  by_cases e1 : c = b
  · by_cases e2 : c = a
    · exact absurd (e2.symm.trans e1) h
    · rw [if_pos e1, if_neg e2, if_pos e1]
  · by_cases e2 : c = a
    · rw [if_neg e1, if_pos e2, if_pos e2]
    · rw [if_neg e1, if_neg e2, if_neg e2, if_neg e1]
/-! ### plain data -/
mutual
def plD : D → Bool
  | .non => true | .bl _ => true | .int _ => true | .str z => decide (z.length ≤ 1000) && z.cps.toList.all fun c => decide (c < 1114112)
  | .tup ds => decide (ds.length ≤ 1000) && plDs ds
  | .lst ds => decide (ds.length ≤ 1000) && plDs ds
  | .any n => n == "dict"
  | _ => false
def plDs : List D → Bool
  | [] => true
  | d :: ds => plD d && plDs ds
end
theorem plDs_mem : ∀ {ds : List D} {d : D}, plDs ds = true → d ∈ ds → plD d = true
  | [], _, _, h => by cases h
  | e :: ds, d, p, h => by
    simp only [plDs, Bool.and_eq_true] at p
    rcases List.mem_cons.mp h with h | h
    · subst h; exact p.1
    · exact plDs_mem p.2 h
theorem plDs_of : ∀ {ds : List D}, (∀ d ∈ ds, plD d = true) → plDs ds = true
  | [], _ => by simp only [plDs]
  | e :: ds, h => by simp only [plDs, Bool.and_eq_true]; exact ⟨h e List.mem_cons_self, plDs_of fun d hd => h d (List.mem_cons_of_mem _ hd)⟩
theorem pl_tup {ds : List D} : plD (.tup ds) = true ↔ ds.length ≤ 1000 ∧ ∀ d ∈ ds, plD d = true := by
  simp only [plD, Bool.and_eq_true, decide_eq_true_eq]
  exact ⟨fun h => ⟨h.1, fun d hd => plDs_mem h.2 hd⟩, fun h => ⟨h.1, plDs_of h.2⟩⟩
theorem pl_str {z : Str} : plD (.str z) = true ↔ z.length ≤ 1000 ∧ ∀ c ∈ z.cps.toList, c < 1114112 := by
  simp only [plD, Bool.and_eq_true, decide_eq_true_eq, List.all_eq_true]
def tyP : D → String
  | .non => "NoneType" | .bl _ => "bool" | .int _ => "int" | .str _ => "str" | .tup _ => "tuple" | .nt _ => "tuple" | .lst _ => "list" | .any n => n | _ => ""
theorem tyD_pl {x : D} (h : plD x = true) (G : Gp) : tyD G x = some (tyP x) := by
  cases x with
  | any n =>
    simp only [plD, Bool.or_eq_true, beq_iff_eq] at h
    simp [tyD, tyP, h]
  | ref a => simp [plD] at h
  | ty a => simp [plD] at h
  | nt a => simp [plD] at h
  | _ => rfl
def isIntD : D → Bool | .int _ => true | .bl _ => true | _ => false
def isBl : D → Bool | .bl _ => true | _ => false
def isStr : D → Bool | .str _ => true | _ => false
def isTup : D → Bool | .tup _ => true | _ => false
def isWhole : D → Bool | .int _ => true | _ => false
theorem isTy_any {n t : String} (h : plD (.any n) = true) (h1 : t ≠ "list") (h2 : t ≠ "dict") : isTy n t = false := by
  simp only [plD, Bool.or_eq_true, beq_iff_eq] at h
  have e : ∀ m : String, m = "list" ∨ m = "dict" → isTy m t = false := by
    rintro m (rfl | rfl)
    · unfold isTy
      rw [show ("list" == t) = false from beq_eq_false_iff_ne.mpr fun z => h1 z.symm] <;> rfl
    · unfold isTy
      rw [show ("dict" == t) = false from beq_eq_false_iff_ne.mpr fun z => h2 z.symm] <;> rfl
  exact e n (.inr h)
theorem isi_pl {x : D} (h : plD x = true) {G : Gp} {n : String} {R : DK} (hn : n ∈ knownTy) : dIsi [x, .ty n] G R ↔ R (.bl (isTy (tyP x) n)) G := by
  unfold dIsi
  simp only [tyD_pl h G]
  exact ⟨fun q => q.2, fun q => ⟨hn, q⟩⟩
theorem isi_int {x : D} (h : plD x = true) {G : Gp} {R : DK} : dIsi [x, .ty "int"] G R ↔ R (.bl (isIntD x)) G := by
  rw [isi_pl h (by decide)]
  have e : isTy (tyP x) "int" = isIntD x := by
    cases x with
    | any n => exact isTy_any h (by decide) (by decide)
    | ref a => simp [plD] at h
    | ty a => simp [plD] at h
    | nt a => simp [plD] at h
    | _ => rfl
  rw [e]
theorem isi_bool {x : D} (h : plD x = true) {G : Gp} {R : DK} : dIsi [x, .ty "bool"] G R ↔ R (.bl (isBl x)) G := by
  rw [isi_pl h (by decide)]
  have e : isTy (tyP x) "bool" = isBl x := by
    cases x with
    | any n => exact isTy_any h (by decide) (by decide)
    | ref a => simp [plD] at h
    | ty a => simp [plD] at h
    | nt a => simp [plD] at h
    | _ => rfl
  rw [e]
theorem isi_str {x : D} (h : plD x = true) {G : Gp} {R : DK} : dIsi [x, .ty "str"] G R ↔ R (.bl (isStr x)) G := by
  rw [isi_pl h (by decide)]
  have e : isTy (tyP x) "str" = isStr x := by
    cases x with
    | any n => exact isTy_any h (by decide) (by decide)
    | ref a => simp [plD] at h
    | ty a => simp [plD] at h
    | nt a => simp [plD] at h
    | _ => rfl
  rw [e]
theorem isi_tup {x : D} (h : plD x = true) {G : Gp} {R : DK} : dIsi [x, .ty "tuple"] G R ↔ R (.bl (isTup x)) G := by
  rw [isi_pl h (by decide)]
  have e : isTy (tyP x) "tuple" = isTup x := by
    cases x with
    | any n => exact isTy_any h (by decide) (by decide)
    | ref a => simp [plD] at h
    | ty a => simp [plD] at h
    | nt a => simp [plD] at h
    | _ => rfl
  rw [e]
/-! ### == of data -/
mutual
def pyD : D → Bool
  | .non => true | .bl _ => true | .int _ => true | .str z => z.cps.toList.all fun c => decide (c < 1114112)
  | .tup ds => pyDs ds
  | .lst ds => pyDs ds
  | _ => false
def pyDs : List D → Bool
  | [] => true
  | d :: ds => pyD d && pyDs ds
end
mutual
def depD : D → Nat
  | .tup ds => depDs ds + 1
  | .lst ds => depDs ds + 1
  | _ => 0
def depDs : List D → Nat
  | [] => 0
  | d :: ds => max (depD d) (depDs ds)
end
mutual
def eqD : D → D → Bool
  | .non, .non => true
  | .bl a, .bl b => a == b
  | .bl a, .int j => (if a then 1 else 0) == j
  | .int i, .bl b => i == (if b then 1 else 0)
  | .int i, .int j => i == j
  | .str x, .str y => x == y
  | .tup xs, .tup ys => eqDs xs ys
  | .lst xs, .lst ys => eqDs xs ys
  | _, _ => false
def eqDs : List D → List D → Bool
  | [], [] => true
  | x :: xs, y :: ys => eqD x y && eqDs xs ys
  | _, _ => false
end
mutual
theorem toPy_pure : ∀ {d : D}, pyD d = true → ∃ a, toPy d = some a ∧ a.canLay0 = true ∧ a.depth = depD d
  | .non, _ => ⟨.none, by simp only [toPy], by simp [PyData.canLay0], by simp [PyData.depth, depD]⟩
  | .bl b, _ => ⟨.bool b, by simp only [toPy], by simp [PyData.canLay0], by simp [PyData.depth, depD]⟩
  | .int i, _ => ⟨.int i, by simp only [toPy], by simp [PyData.canLay0], by simp [PyData.depth, depD]⟩
  | .str z, h => ⟨.str z, by simp only [toPy], by
      simp only [pyD] at h
      simp only [PyData.canLay0, PyData.strOk]
      rw [← Array.all_toList]
      exact h, by simp [PyData.depth, depD]⟩
  | .tup ds, h => by
    simp only [pyD] at h
    obtain ⟨as, h1, h2, h3⟩ := toPys_pure h
    exact ⟨.tuple as, by simp only [toPy, h1, Option.map_some], by simpa [PyData.canLay0] using h2, by simp only [PyData.depth, depD, h3]⟩
  | .lst ds, h => by
    simp only [pyD] at h
    obtain ⟨as, h1, h2, h3⟩ := toPys_pure h
    exact ⟨.list as, by simp only [toPy, h1, Option.map_some], by simpa [PyData.canLay0] using h2, by simp only [PyData.depth, depD, h3]⟩
  | .ty _, h => by simp [pyD] at h
  | .ref _, h => by simp [pyD] at h
  | .any _, h => by simp [pyD] at h
theorem toPys_pure : ∀ {ds : List D}, pyDs ds = true → ∃ as, toPys ds = some as ∧ PyData.canLayAll0 as = true ∧ PyData.depthAll as = depDs ds
  | [], _ => ⟨[], by simp only [toPys], by simp [PyData.canLayAll0], by simp [PyData.depthAll, depDs]⟩
  | d :: ds, h => by
    simp only [pyDs, Bool.and_eq_true] at h
    obtain ⟨a, h1, h2, h3⟩ := toPy_pure h.1
    obtain ⟨as, h4, h5, h6⟩ := toPys_pure h.2
    exact ⟨a :: as, by simp only [toPys, h1, h4], by simp [PyData.canLayAll0, h2, h5], by simp only [PyData.depthAll, depDs, h3, h6]⟩
end
def ShapeOf (c : D) (a : PyData) : Prop := match c with
  | .non => a = .none | .bl b => a = .bool b | .int i => a = .int i | .str z => a = .str z
  | .tup ds => ∃ as, a = .tuple as ∧ toPys ds = some as
  | .lst ds => ∃ as, a = .list as ∧ toPys ds = some as
  | _ => False
theorem toPy_shape {c : D} {a : PyData} (h : toPy c = some a) : ShapeOf c a := by
  cases c with
  | tup ds =>
    simp only [toPy] at h
    cases e1 : toPys ds with
    | none => rw [e1] at h; cases h
    | some as => rw [e1] at h; cases h; exact ⟨as, rfl, e1⟩
  | lst ds =>
    simp only [toPy] at h
    cases e1 : toPys ds with
    | none => rw [e1] at h; cases h
    | some as => rw [e1] at h; cases h; exact ⟨as, rfl, e1⟩
  | _ => simp only [toPy] at h <;> first | (cases h; done) | (cases h; rfl)
mutual
theorem eqv_eqD : ∀ {c d : D} {a b : PyData}, toPy c = some a → toPy d = some b → PyData.eqv a b = eqD c d
  | .tup xs, .tup ys, a, b, h1, h2 => by
    obtain ⟨as, rfl, e1⟩ := toPy_shape h1
    obtain ⟨bs, rfl, e2⟩ := toPy_shape h2
    simp only [PyData.eqv, eqD]
    exact eqv_eqDs e1 e2
  | .lst xs, .lst ys, a, b, h1, h2 => by
    obtain ⟨as, rfl, e1⟩ := toPy_shape h1
    obtain ⟨bs, rfl, e2⟩ := toPy_shape h2
    simp only [PyData.eqv, eqD]
    exact eqv_eqDs e1 e2
  | .tup xs, .lst ys, a, b, h1, h2 => by
    obtain ⟨as, rfl, e1⟩ := toPy_shape h1
    obtain ⟨bs, rfl, e2⟩ := toPy_shape h2
    simp only [PyData.eqv, eqD]
  | .lst xs, .tup ys, a, b, h1, h2 => by
    obtain ⟨as, rfl, e1⟩ := toPy_shape h1
    obtain ⟨bs, rfl, e2⟩ := toPy_shape h2
    simp only [PyData.eqv, eqD]
  | .tup xs, .non, a, b, h1, h2 | .tup xs, .bl _, a, b, h1, h2 | .tup xs, .int _, a, b, h1, h2 | .tup xs, .str _, a, b, h1, h2
  | .lst xs, .non, a, b, h1, h2 | .lst xs, .bl _, a, b, h1, h2 | .lst xs, .int _, a, b, h1, h2 | .lst xs, .str _, a, b, h1, h2 => by
    obtain ⟨as, rfl, e1⟩ := toPy_shape h1
    have s2 := toPy_shape h2
    simp only [ShapeOf] at s2
    subst s2
    simp only [PyData.eqv, eqD]
  | .non, .tup ys, a, b, h1, h2 | .bl _, .tup ys, a, b, h1, h2 | .int _, .tup ys, a, b, h1, h2 | .str _, .tup ys, a, b, h1, h2
  | .non, .lst ys, a, b, h1, h2 | .bl _, .lst ys, a, b, h1, h2 | .int _, .lst ys, a, b, h1, h2 | .str _, .lst ys, a, b, h1, h2 => by
    obtain ⟨bs, rfl, e1⟩ := toPy_shape h2
    have s1 := toPy_shape h1
    simp only [ShapeOf] at s1
    subst s1
    simp only [PyData.eqv, eqD]
  | .ty _, _, a, b, h1, h2 | .ref _, _, a, b, h1, h2 | .any _, _, a, b, h1, h2 => (toPy_shape h1).elim
  | _, .ty _, a, b, h1, h2 | _, .ref _, a, b, h1, h2 | _, .any _, a, b, h1, h2 => (toPy_shape h2).elim
  | .non, .non, a, b, h1, h2 | .non, .bl _, a, b, h1, h2 | .non, .int _, a, b, h1, h2 | .non, .str _, a, b, h1, h2
  | .bl _, .non, a, b, h1, h2 | .bl _, .bl _, a, b, h1, h2 | .bl _, .int _, a, b, h1, h2 | .bl _, .str _, a, b, h1, h2
  | .int _, .non, a, b, h1, h2 | .int _, .bl _, a, b, h1, h2 | .int _, .int _, a, b, h1, h2 | .int _, .str _, a, b, h1, h2
  | .str _, .non, a, b, h1, h2 | .str _, .bl _, a, b, h1, h2 | .str _, .int _, a, b, h1, h2 | .str _, .str _, a, b, h1, h2 => by
    have s1 := toPy_shape h1
    have s2 := toPy_shape h2
    simp only [ShapeOf] at s1 s2
    subst s1 s2
    simp only [PyData.eqv, eqD]
theorem eqv_eqDs : ∀ {cs ds : List D} {as bs : List PyData}, toPys cs = some as → toPys ds = some bs → PyData.eqvAll as bs = eqDs cs ds
  | [], [], _, _, h1, h2 => by simp only [toPys] at h1 h2; cases h1; cases h2; simp only [PyData.eqvAll, eqDs]
  | [], d :: ds, _, _, h1, h2 => by
    simp only [toPys] at h1 h2
    split at h2
    · cases h1; cases h2; simp only [PyData.eqvAll, eqDs]
    · cases h2
  | c :: cs, [], _, _, h1, h2 => by
    simp only [toPys] at h1 h2
    split at h1
    · cases h1; cases h2; simp only [PyData.eqvAll, eqDs]
    · cases h1
  | c :: cs, d :: ds, _, _, h1, h2 => by
    simp only [toPys] at h1 h2
    split at h1
    · split at h2
      · rename_i a as e1 e2 _ _ b bs e3 e4
        cases h1; cases h2
        simp only [PyData.eqvAll, eqDs, eqv_eqD e1 e3, eqv_eqDs e2 e4]
      · cases h2
    · cases h1
end
theorem gPy_pure {G : Gp} {d : D} (h : pyD d = true) : gPy G d = toPy d := by
  cases d with
  | ref a => simp [pyD] at h
  | _ => rfl
theorem eqD_scal_int (i j : Int) : eqD (.int i) (.int j) = decide (i = j) := by simp only [eqD]; rw [Bool.eq_iff_iff]; simp
theorem eqD_scal_str (i j : Str) : eqD (.str i) (.str j) = decide (i = j) := by simp only [eqD]; rw [Bool.eq_iff_iff]; simp
theorem eqD_scal_bl (i j : Bool) : eqD (.bl i) (.bl j) = decide (i = j) := by simp only [eqD]; rw [Bool.eq_iff_iff]; simp
theorem eqW_pure {f : Bool → Bool} {c d : D} {G : Gp} {R : DK} (hc : pyD c = true) (hd : pyD d = true) (lc : depD c ≤ 64) (ld : depD d ≤ 64) : dEqW f c d G R ↔ R (.bl (f (eqD c d))) G := by
  unfold dEqW
  split
  · rw [eqD_scal_int]
  · rw [eqD_scal_str]
  · rw [eqD_scal_bl]
  · simp only [eqD]
  · obtain ⟨a, h1, h2, h3⟩ := toPy_pure hc
    obtain ⟨b, h4, h5, h6⟩ := toPy_pure hd
    rw [gPy_pure hc, gPy_pure hd, h1, h4]
    simp only [eqv_eqD h1 h4]
    have s1 : SeqAt.shaped a = true := by unfold SeqAt.shaped; rw [h2, h3, decide_eq_true lc] <;> rfl
    have s2 : SeqAt.shaped b = true := by unfold SeqAt.shaped; rw [h5, h6, decide_eq_true ld] <;> rfl
    exact ⟨fun z => z.2.2, fun z => ⟨s1, s2, z⟩⟩
theorem eq_pure {c d : D} {G : Gp} {R : DK} (hc : pyD c = true) (hd : pyD d = true) (lc : depD c ≤ 64) (ld : depD d ≤ 64) : dEq c d G R ↔ R (.bl (eqD c d)) G := eqW_pure hc hd lc ld
theorem ne_pure {c d : D} {G : Gp} {R : DK} (hc : pyD c = true) (hd : pyD d = true) (lc : depD c ≤ 64) (ld : depD d ≤ 64) : dNe c d G R ↔ R (.bl (!eqD c d)) G := eqW_pure hc hd lc ld
theorem pyDs_of : ∀ {ds : List D}, (∀ d ∈ ds, pyD d = true) → pyDs ds = true
  | [], _ => by simp only [pyDs]
  | e :: ds, h => by simp only [pyDs, Bool.and_eq_true]; exact ⟨h e List.mem_cons_self, pyDs_of fun d hd => h d (List.mem_cons_of_mem _ hd)⟩
theorem depDs_le : ∀ {ds : List D} {n : Nat}, (∀ d ∈ ds, depD d ≤ n) → depDs ds ≤ n
  | [], _, _ => by simp only [depDs]; omega
  | e :: ds, n, h => by
    have h1 := h e List.mem_cons_self
    have h2 := depDs_le (n := n) fun d hd => h d (List.mem_cons_of_mem e hd)
    simp only [depDs]; omega
theorem small_line {n : Nat} (h : n ≤ 1000) : n ≤ sizeLine := Nat.le_of_lt (small1000 h)
theorem len_str {z : Str} {G : Gp} {R : DK} (h : z.length ≤ 1000) : dLen [.str z] G R ↔ R (.int z.length) G := by
  unfold dLen
  exact ⟨fun q => q.2, fun q => ⟨small_line h, q⟩⟩
theorem len_tup {ds : List D} {G : Gp} {R : DK} : dLen [.tup ds] G R ↔ R (.int ds.length) G := by unfold dLen; simp only [seqOf]
theorem len_lst {ds : List D} {G : Gp} {R : DK} : dLen [.lst ds] G R ↔ R (.int ds.length) G := by unfold dLen; simp only [seqOf, lstOf]
theorem len_ref {p : Addr} {ds : List D} {G : Gp} {R : DK} (e : G p = some (.lst ds)) : dLen [.ref p] G R ↔ R (.int ds.length) G := by unfold dLen; simp only [seqOf, lstOf, e]
theorem all_lst {bs : List Bool} {G : Gp} {R : DK} : dAll [.lst (bs.map D.bl)] G R ↔ R (.bl (bs.all id)) G := by
  unfold dAll
  simp only [lstOf, Option.bind_some, blsOf_map]
theorem all_pure {g : DG} {te : DE} {σ : Sd} {gd : Gp → Prop} {G : Gp} (p : D → Bool) (hg : gd G) (xs : List D) (h : ∀ x ∈ xs, ∀ Q : DK, Q (.bl (p x)) G → g x σ G fun σ2 G2 => te σ2 G2 Q) {Q : DK} (q : Q (.bl (xs.all p)) G) : dLcGo g dYes te gd σ xs [] G fun ds G2 => dAll [.lst ds] G2 Q := by
  refine lc_pure (fun x => .bl (p x)) hg xs [] h _ ?_
  have e : [] ++ xs.map (fun x => D.bl (p x)) = (xs.map p).map D.bl := by simp
  rw [e, all_lst, List.all_map]
  exact q
/-! ### cuts and loops -/
theorem seq_cut {t u : DS} {E : DEnds} {σ : Sd} {G : Gp} (M : Sd → Gp → Prop) (h1 : ∀ σ' G', M σ' G' → u E σ' G') (h2 : ∀ N : Sd → Gp → Prop, (∀ σ' G', M σ' G' → N σ' G') → t { E with nx := N } σ G) : dSeq t u E σ G := h2 (u E) h1
theorem for_go {g : DG} {tb : DS} {gd : Gp → Prop} {E : DEnds} (I : List D → Sd → Gp → Prop)
    (turn : ∀ x xs σ G, I (x :: xs) σ G → gd G ∧ ∀ N : Sd → Gp → Prop, (∀ σ' G', I xs σ' G' → N σ' G') → g x σ G fun σ2 G2 => tb { E with nx := N, ct := N, bk := E.nx } σ2 G2)
    (fin : ∀ σ G, I [] σ G → gd G ∧ E.nx σ G) : ∀ (xs : List D) (σ : Sd) (G : Gp), I xs σ G → dForGo g tb gd E xs σ G
  | [], σ, G, h => fin σ G h
  | x :: xs, σ, G, h => ⟨(turn x xs σ G h).1, (turn x xs σ G h).2 _ fun σ' G' i => for_go I turn fin xs σ' G' i⟩
theorem wh_go {c : DT} {tb : DS} {E : DEnds} (I : Nat → Sd → Gp → Prop)
    (turn : ∀ n σ G, I n σ G → ∀ N : Sd → Gp → Prop, (∀ k σ' G', n = k + 1 → I k σ' G' → N σ' G') → c σ G fun b G1 => match b with | true => tb { E with nx := N, ct := N, bk := E.nx } σ G1 | false => E.nx σ G1) :
    ∀ (n : Nat) (σ : Sd) (G : Gp), I n σ G → dWhN c tb E (n + 1) σ G
  | 0, σ, G, h => turn 0 σ G h _ fun k _ _ e => by omega
  | n + 1, σ, G, h => turn (n + 1) σ G h _ fun k σ' G' e i => by
    have : k = n := by omega
    subst this
    exact wh_go I turn k σ' G' i
/-- a comprehension by an invariant -/
theorem lc_go {g : DG} {tt : DT} {te : DE} {gd : Gp → Prop} {σ : Sd} {Q : List D → Gp → Prop} (I : List D → List D → Gp → Prop)
    (turn : ∀ x xs acc G, I (x :: xs) acc G → gd G ∧ ∀ N : List D → Gp → Prop, (∀ acc' G', I xs acc' G' → N acc' G') → g x σ G fun σ2 G2 => tt σ2 G2 fun b G3 => match b with | true => te σ2 G3 fun y G4 => N (acc ++ [y]) G4 | false => N acc G3)
    (fin : ∀ acc G, I [] acc G → gd G ∧ Q acc G) : ∀ (xs acc : List D) (G : Gp), I xs acc G → dLcGo g tt te gd σ xs acc G Q
  | [], acc, G, h => fin acc G h
  | x :: xs, acc, G, h => ⟨(turn x xs acc G h).1, (turn x xs acc G h).2 _ fun acc' G' i => lc_go I turn fin xs acc' G' i⟩
theorem gup_self {G : Gp} {a : Addr} {o : GO} (h : G a = some o) : gup G a o = G := by
  funext b; unfold gup
  split
  · rename_i e; rw [e, h]
  · rfl
/-! ### texts by their signs' numbers -/
abbrev cds (z : Str) : List Nat := z.cps.toList
theorem cds_len (z : Str) : (cds z).length = z.length := Array.length_toList
theorem cds_inj {a b : Str} (h : cds a = cds b) : a = b := by
  cases a; cases b; simp only [cds] at h; congr 1; exact Array.toList_inj.mp h
theorem cds_app (a b : Str) : cds (a ++ b) = cds a ++ cds b := by show (a.cps ++ b.cps).toList = _; simp
theorem cds_cut (z : Str) (lo hi : Option Int) : cds (cutS z lo hi) = cutL (cds z) lo hi := by
  unfold cutS cutL
  rw [cds_len]
theorem cds_join (sep : Str) : ∀ zs : List Str, cds (Txt.join sep zs) = ((zs.map cds).intersperse (cds sep)).flatten := by
  intro zs
  rw [show Txt.join sep zs = Str.join sep zs from PySem.StrLaws.glued_eq_join sep zs]
  induction zs with
  | nil => rfl
  | cons x r ih =>
    cases r with
    | nil => simp [Str.join]
    | cons y r =>
      show cds (x ++ sep ++ Str.join sep (y :: r)) = _
      rw [cds_app, cds_app, ih]
      simp
theorem cds_join0 {sep : Str} (h : cds sep = []) (zs : List Str) : cds (Txt.join sep zs) = (zs.map cds).flatten := by
  rw [cds_join, h]
  generalize zs.map cds = l
  induction l with
  | nil => rfl
  | cons x r ih =>
    cases r with
    | nil => simp
    | cons y r => simp [List.intersperse] at ih ⊢; rw [ih]
theorem eqW_ref {f : Bool → Bool} {G : Gp} {p : Addr} {ds : List D} {d : D} {R : DK} (e : G p = some (.lst ds)) : dEqW f (.ref p) d G R ↔ dEqW f (.lst ds) d G R := by
  cases d <;> simp only [dEqW, gPy, e, toPy]
theorem atI_neg1 {α : Type} {xs : List α} {x : α} (h : xs.getLast? = some x) : atI xs (-1) = some x := by
  have hne : xs ≠ [] := fun z => by subst z; cases h
  have e := List.dropLast_concat_getLast hne
  rw [List.getLast?_eq_getLast hne] at h
  rw [← e]
  have := atI_last xs.dropLast (xs.getLast hne)
  rw [this]; exact h
theorem cut_init {α : Type} (xs : List α) : cutL xs none (some (-1)) = xs.dropLast := by
  unfold cutL
  have h1 : HT.sIx xs.length 0 none = 0 := rfl
  have h2 : HT.sIx xs.length xs.length (some (-1)) = xs.length - 1 := by
    have := HT.clip_eq (-1) xs.length xs.length
    rw [if_pos (by decide)] at this
    omega
  rw [h1, h2, List.drop_zero, Nat.sub_zero, List.dropLast_eq_take]
theorem nodup_sub {α : Type} : ∀ {l1 l2 : List α}, l1.Nodup → (∀ x ∈ l1, x ∈ l2) → l1.length ≤ l2.length
  | [], _, _, _ => Nat.zero_le _
  | a :: l1, l2, hn, hs => by
    obtain ⟨s, t, rfl⟩ := List.append_of_mem (hs a List.mem_cons_self)
    have hn2 := List.nodup_cons.mp hn
    have := nodup_sub (l1 := l1) (l2 := s ++ t) hn2.2 fun x hx => by
      have := hs x (List.mem_cons_of_mem _ hx)
      simp only [List.mem_append, List.mem_cons] at this ⊢
      rcases this with h | h | h
      · exact .inl h
      · subst h; exact absurd hx hn2.1
      · exact .inr h
    simp only [List.length_append, List.length_cons] at this ⊢
    omega
theorem in_strs {z : Str} {zs : List Str} : inF (.str z) (zs.map D.str) = decide (z ∈ zs) := by
  unfold inF
  rw [List.any_map, Bool.eq_iff_iff, List.any_eq_true, decide_eq_true_eq]
  constructor
  · rintro ⟨y, hy, e⟩
    have e' : (y == z) = true := e
    rw [beq_iff_eq] at e'
    rw [← e']; exact hy
  · intro h
    exact ⟨z, h, beq_self_eq_true z⟩
theorem flat_strs' (zs : List Str) : (zs.map D.str).all flatD = true := by
  rw [List.all_map, List.all_eq_true]; intro _ _; rfl
/-! ### operators at what is known -/
section
variable {mk : Bool} {i j : Int} {a b : Str} {x y : Bool} {as bs : List D} {d : D} {G : Gp} {R : DK}
theorem dAdd_ii : dAdd mk (.int i) (.int j) G R = R (.int (i + j)) G := rfl
theorem dAdd_ss : dAdd mk (.str a) (.str b) G R = (a.length + b.length ≤ sizeLine ∧ R (.str (a ++ b)) G) := rfl
theorem dAdd_tt : dAdd mk (.tup as) (.tup bs) G R = (as.length + bs.length ≤ sizeLine ∧ R (.tup (as ++ bs)) G) := rfl
theorem dAdd_ll : dAdd mk (.lst as) (.lst bs) G R = (as.length + bs.length ≤ sizeLine ∧ newL mk (as ++ bs) G R) := rfl
theorem dMinus_ii : dMinus (.int i) (.int j) G R = R (.int (i - j)) G := rfl
theorem dMul_ii : dMul (.int i) (.int j) G R = (IntMulOk i j ∧ R (.int (i * j)) G) := rfl
theorem dMod_ii : dMod (.int i) (.int j) G R = (0 < j ∧ R (.int (i % j)) G) := rfl
theorem dFdiv_ii : dFdiv (.int i) (.int j) G R = (CDivW i j ∧ R (.int (i / j)) G) := rfl
theorem dPow_ii : dPow (.int i) (.int j) G R = (CPowX i j ∧ R (.int (i ^ j.toNat)) G) := rfl
theorem dShl_ii : dShl (.int i) (.int j) G R = (CShl i j ∧ R (.int (i * 2 ^ j.toNat)) G) := rfl
theorem dNeg_i : dNeg (.int i) G R = R (.int (-i)) G := rfl
theorem dIadd_ii : dIadd (.int i) (.int j) G R = R (.int (i + j)) G := rfl
theorem dLt_ii : dLt (.int i) (.int j) G R = R (.bl (decide (i < j))) G := rfl
theorem dLe_ii : dLe (.int i) (.int j) G R = R (.bl (decide (i ≤ j))) G := rfl
theorem dGt_ii : dGt (.int i) (.int j) G R = R (.bl (decide (j < i))) G := rfl
theorem dGe_ii : dGe (.int i) (.int j) G R = R (.bl (decide (j ≤ i))) G := rfl
theorem dEq_ii : dEq (.int i) (.int j) G R = R (.bl (decide (i = j))) G := rfl
theorem dNe_ii : dNe (.int i) (.int j) G R = R (.bl (!decide (i = j))) G := rfl
theorem dEq_ss : dEq (.str a) (.str b) G R = R (.bl (decide (a = b))) G := rfl
theorem dNe_ss : dNe (.str a) (.str b) G R = R (.bl (!decide (a = b))) G := rfl
theorem dEq_bb : dEq (.bl x) (.bl y) G R = R (.bl (decide (x = y))) G := rfl
theorem dNe_bb : dNe (.bl x) (.bl y) G R = R (.bl (!decide (x = y))) G := rfl
theorem dIs_n : dIs d .non G R = R (.bl (isNon d)) G := rfl
theorem dIsNot_n : dIsNot d .non G R = R (.bl (!isNon d)) G := rfl
theorem dMax2_ii : dMax2 [.int i, .int j] G R = R (.int (if j > i then j else i)) G := rfl
theorem dMin2_ii : dMin2 [.int i, .int j] G R = R (.int (if j < i then j else i)) G := rfl
theorem dTuple_t : dTuple [.tup as] G R = R (.tup as) G := rfl
theorem dTuple_l : dTuple [.lst as] G R = R (.tup as) G := rfl
theorem dList_t : dList mk [.tup as] G R = newL mk as G R := rfl
theorem dList_l : dList mk [.lst as] G R = newL mk as G R := rfl
theorem dIx_t : dIx (.tup as) (.int i) G R = (match atI as i with | some d => R d G | none => False) := rfl
theorem dIx_l : dIx (.lst as) (.int i) G R = (match atI as i with | some d => R d G | none => False) := rfl
theorem dIx_s : dIx (.str a) (.int i) G R = (a.length ≤ sizeLine ∧ (match atI a.cps.toList i with | some c => R (.str ⟨#[c]⟩) G | none => False)) := rfl
theorem dSl_t {lo hi : Option Int} : dSl mk (.tup as) lo hi G R = R (.tup (cutL as lo hi)) G := rfl
theorem dSl_l {lo hi : Option Int} : dSl mk (.lst as) lo hi G R = newL mk (cutL as lo hi) G R := rfl
theorem dSl_s {lo hi : Option Int} : dSl mk (.str a) lo hi G R = (a.length ≤ sizeLine ∧ R (.str (cutS a lo hi)) G) := rfl
theorem newL_f : newL false as G R = R (.lst as) G := rfl
end
end DL

set_option Elab.async false
set_option linter.all false
set_option maxRecDepth 100000
set_option maxHeartbeats 4000000
set_option autoImplicit false
namespace DL
open PySem PySem.Spec PyProof.Rows L2
/-! ### a block within a block -/
/-! ### names in another order -/
def permL {α : Type} (js : List Nat) (l : List α) : List α := js.filterMap fun i => l[i]?
/-! ### zip -/
def zipD : List D → List D → List D
  | x :: xs, y :: ys => .tup [x, y] :: zipD xs ys
  | _, _ => []
theorem zipD_get : ∀ (xs ys : List D) (i : Nat), (zipD xs ys)[i]? = match xs[i]?, ys[i]? with | some x, some y => some (.tup [x, y]) | _, _ => none
  | [], ys, i => by simp [zipD]
  | x :: xs, [], i => by
    simp only [zipD, List.getElem?_nil]
    split <;> simp_all
  | x :: xs, y :: ys, 0 => by simp [zipD]
  | x :: xs, y :: ys, i + 1 => by simp only [zipD, List.getElem?_cons_succ]; exact zipD_get xs ys i
theorem zipD_length : ∀ (xs ys : List D), (zipD xs ys).length = min xs.length ys.length
  | [], ys => by simp [zipD]
  | x :: xs, [] => by simp [zipD]
  | x :: xs, y :: ys => by simp only [zipD, List.length_cons, zipD_length xs ys]; omega
variable {X : Cx}
end DL

set_option Elab.async false
set_option linter.all false
set_option maxRecDepth 100000
set_option maxHeartbeats 4000000
set_option autoImplicit false
namespace DL
open PySem PySem.Spec PyProof.Rows L2
/-! ### a, *b = a tuple or a list -/
section
variable {prog : Program} {w : World} {A : Around} {E : Value → Shared → Prop} {s : Shared}
theorem star_tup {l : Addr} {items : Array Value} {n i : Nat} {Q : List Value → Shared → Prop} (hl : IsTup s.heap l items) (hh : A.handled = none) (hi : i < n) (hn : n ≤ items.size + 1) (hz : items.size ≤ sizeLine)
    (h : ∀ (h' : Heap) (tk : Nat), (∀ b o, s.heap.get? b = some o → h'.get? b = some o) →
      Q (items.toList.take i ++ [.ref h'.objs.size] ++ (items.toList.drop i).drop (items.size + 1 - n)) { s with heap := h'.push { cls := .type "list", data := .seq ((items.toList.drop i).take (items.size + 1 - n)).toArray }, toks := tk }) :
    wpAny (model prog w) A (unpackItems (.ref l) n (some i)) Q E s := by
  have hlt : l ≠ s.heap.objs.size := by obtain ⟨o, ho, _⟩ := hl; exact Nat.ne_of_lt (Heap.lt_size ho)
  unfold unpackItems
  refine wpAny_bind ?_
  unfold notIterableAtAll
  refine wpAny_bind (wpAny_specialOf hl.typeIs slot_tuple_iter.lookup ?_)
  refine wpAny_pure ?_
  simp only [Bool.false_eq_true, if_false]
  refine wpAny_bind (wpAny_holding (iter_tuple hl ?_))
  refine wpAny_bind (wpAny_holding (draw_tuple hlt i 0 _ _ ⟨_, Heap.get?_push_size _ rfl, rfl, rfl⟩ (hl.push _) (by omega) fun h₁ hit₁ hs₁ => ?_))
  have hl₁ : IsTup h₁ l items := (hl.push _).extBut hs₁.extBut hlt
  rw [Nat.zero_add] at hit₁
  have hit₁' := hit₁
  obtain ⟨oi, hoi, _⟩ := hit₁'
  have hl₁' := hl₁
  obtain ⟨ol, hol, _⟩ := hl₁'
  rw [List.drop_zero]
  have hfl : (items.toList.take i).length = i := by rw [List.length_take, Array.length_toList]; omega
  rw [if_neg (show ¬ ((items.toList.take i).length < i) by rw [hfl]; omega)]
  refine wpAny_bind (wpAny_holding (PySem.W.kun_collect (s := { s with heap := h₁ }) (T := "tuple_iterator") (.inr (.inr (.inr rfl))) (Walks.tuple (A := A.in1) hh s.heap.objs.size l hlt items) (fun j u st => st.1.typeIs) (k := i) (by omega) ⟨hit₁, hl₁⟩ (Heap.lt_size hoi) (Heap.lt_size hol) (fun h₂ tk hk => ?_) hz))
  have hrl : (items.toList.drop i).length = items.size - i := by rw [List.length_drop, Array.length_toList]
  have hmid : (items.toList.drop i).length - (n - 1 - i) = items.size + 1 - n := by rw [hrl]; omega
  show wpAny _ _ (if (items.toList.drop i).length < n - 1 - i then _ else _) _ _ _
  rw [if_neg (by rw [hrl]; omega)]
  show wpAny _ _ (newList ((items.toList.drop i).take ((items.toList.drop i).length - (n - 1 - i))) >>= fun d => pure (items.toList.take i ++ [d] ++ (items.toList.drop i).drop ((items.toList.drop i).length - (n - 1 - i)))) _ _ _
  rw [hmid]
  have he : ∀ b o, s.heap.get? b = some o → h₂.get? b = some o := fun b o e => hk b o (Nat.ne_of_lt (Heap.lt_size e)) (hs₁.extBut b o (Nat.ne_of_lt (Heap.lt_size e)) (Heap.get?_push_of_some _ e))
  exact wpAny_bind (wpAny_newList (s := { s with heap := h₂, toks := tk }) (wpAny_pure (h h₂ tk he)) (by rw [List.length_take, hrl]; omega))
theorem star_lst' {l : Addr} {items : Array Value} {n i : Nat} {Q : List Value → Shared → Prop} (hl : s.heap.IsList l items) (hh : A.handled = none) (hi : i < n) (hn : n ≤ items.size + 1) (hz : items.size ≤ sizeLine)
    (h : ∀ (h' : Heap) (tk : Nat), (∀ b o, s.heap.get? b = some o → h'.get? b = some o) →
      Q (items.toList.take i ++ [.ref h'.objs.size] ++ (items.toList.drop i).drop (items.size + 1 - n)) { s with heap := h'.push { cls := .type "list", data := .seq ((items.toList.drop i).take (items.size + 1 - n)).toArray }, toks := tk }) :
    wpAny (model prog w) A (unpackItems (.ref l) n (some i)) Q E s := by
  have hlt : l ≠ s.heap.objs.size := by obtain ⟨o, ho, _⟩ := hl; exact Nat.ne_of_lt (Heap.lt_size ho)
  unfold unpackItems
  refine wpAny_bind ?_
  unfold notIterableAtAll
  refine wpAny_bind (wpAny_specialOf hl.typeIs slot_list_iter.lookup ?_)
  refine wpAny_pure ?_
  simp only [Bool.false_eq_true, if_false]
  refine wpAny_bind (wpAny_holding (wpAny_pyIter_list hl ?_))
  refine wpAny_bind (wpAny_holding (PySem.W.kun_draw hlt i 0 _ _ ⟨_, Heap.get?_push_size _ rfl, rfl, rfl⟩ (hl.push _) (by omega) fun h₁ hit₁ hs₁ => ?_))
  have hl₁ : h₁.IsList l items := (hl.push _).extBut hs₁.extBut hlt
  rw [Nat.zero_add] at hit₁
  have hit₁' := hit₁
  obtain ⟨oi, hoi, _⟩ := hit₁'
  have hl₁' := hl₁
  obtain ⟨ol, hol, _⟩ := hl₁'
  rw [List.drop_zero]
  have hfl : (items.toList.take i).length = i := by rw [List.length_take, Array.length_toList]; omega
  rw [if_neg (show ¬ ((items.toList.take i).length < i) by rw [hfl]; omega)]
  refine wpAny_bind (wpAny_holding (PySem.W.kun_collect (s := { s with heap := h₁ }) (T := "list_iterator") (.inr (.inr (.inl rfl))) (Walks.list (A := A.in1) hh s.heap.objs.size l hlt items) (fun j u st => st.1.typeIs) (k := i) (by omega) ⟨hit₁, hl₁⟩ (Heap.lt_size hoi) (Heap.lt_size hol) (fun h₂ tk hk => ?_) hz))
  have hrl : (items.toList.drop i).length = items.size - i := by rw [List.length_drop, Array.length_toList]
  have hmid : (items.toList.drop i).length - (n - 1 - i) = items.size + 1 - n := by rw [hrl]; omega
  show wpAny _ _ (if (items.toList.drop i).length < n - 1 - i then _ else _) _ _ _
  rw [if_neg (by rw [hrl]; omega)]
  show wpAny _ _ (newList ((items.toList.drop i).take ((items.toList.drop i).length - (n - 1 - i))) >>= fun d => pure (items.toList.take i ++ [d] ++ (items.toList.drop i).drop ((items.toList.drop i).length - (n - 1 - i)))) _ _ _
  rw [hmid]
  have he : ∀ b o, s.heap.get? b = some o → h₂.get? b = some o := fun b o e => hk b o (Nat.ne_of_lt (Heap.lt_size e)) (hs₁.extBut b o (Nat.ne_of_lt (Heap.lt_size e)) (Heap.get?_push_of_some _ e))
  exact wpAny_bind (wpAny_newList (s := { s with heap := h₂, toks := tk }) (wpAny_pure (h h₂ tk he)) (by rw [List.length_take, hrl]; omega))
end
section
variable {X : Cx} {pos : Pos}
def gStar (K : PySem.W.Frag) (n i : Nat) (t : TGs) : TG := fun v σ H Q => ∃ a xs, v = .ref a ∧ (SqT K H a xs ∨ SqL K H a xs) ∧ n ≤ xs.length + 1 ∧
  ∀ p, H p = none → t (xs.take i ++ [.ref p] ++ (xs.drop i).drop (xs.length + 1 - n)) σ (upd H p (.lst ((xs.drop i).take (xs.length + 1 - n)))) Q
theorem vals_take {vs : List V} {us : List Value} (h : Vals vs us) : ∀ n : Nat, Vals (vs.take n) (us.take n) := by
  induction h with
  | nil => intro n; simp; exact .nil
  | cons r _ ih =>
    intro n
    cases n with
    | zero => exact .nil
    | succ n => exact .cons r (ih n)
theorem vals_drop {vs : List V} {us : List Value} (h : Vals vs us) : ∀ n : Nat, Vals (vs.drop n) (us.drop n) := by
  induction h with
  | nil => intro n; simp; exact .nil
  | cons r rr ih =>
    intro n
    cases n with
    | zero => exact .cons r rr
    | succ n => exact ih n
theorem vals_app {vs vs' : List V} {us us' : List Value} (h : Vals vs us) (h' : Vals vs' us') : Vals (vs ++ vs') (us ++ us') := by
  induction h with
  | nil => exact h'
  | cons r _ ih => exact .cons r ih
theorem pg_star {es : List Expr} {k : Nat} {t : TGs} {n i : Nat} (hc : X.calm = true) (h : PGs X es t) (hi : i < n)
    (hn : (assignEach es X.env).length = n := by rfl) (hst : (assignEach es X.env).findIdx? (·.1) = some i := by rfl) : PG X (.Tuple es k pos) (gStar X.K n i t) := by
  refine ⟨fun pins s σ H v u Q I r hw => ?_⟩
  obtain ⟨a, xs, e1, hq, hl, hw⟩ := hw
  subst e1
  cases r
  rw [assign_Tuple]
  refine wpAny_bind (wpAny_standAt ?_)
  unfold unpack
  rw [hn, hst]
  have fin : ∀ (its : List Value) (h' : Heap) (tk : Nat), Vals xs its → (∀ b o, s.heap.get? b = some o → h'.get? b = some o) → xs.length ≤ sizeLine →
      wpAny (model X.prog X.w) X.A (assignInOrder ((assignEach es X.env).map (·.2)) (its.take i ++ [.ref h'.objs.size] ++ (its.drop i).drop (its.length + 1 - n))) (fun _ s' => ∃ σ' H', Inv X pins σ' H' s' ∧ Q σ' H') X.xe
        { s with heap := h'.push { cls := .type "list", data := .seq ((its.drop i).take (its.length + 1 - n)).toArray }, toks := tk } := by
    intro its h' tk rv hk hz
    have I1 : Inv X pins σ H { s with heap := h', toks := tk } := I.kept hk
    have hln := rv.length
    have np : H h'.objs.size = none := I1.hok.fresh (Nat.le_refl _)
    have I2 : Inv X pins σ (upd H h'.objs.size (.lst ((xs.drop i).take (xs.length + 1 - n)))) { s with heap := h'.push { cls := .type "list", data := .seq ((its.drop i).take (its.length + 1 - n)).toArray }, toks := tk } :=
      I1.laid (t' := tk) (fun b u e => Heap.get?_push_of_some _ e) (Nat.le_refl _)
        (show ObjOk X.prog X.w _ _ _ (.lst ((xs.drop i).take (xs.length + 1 - n))) from ⟨by rw [List.length_take, List.length_drop]; omega, _, 0, by rw [← hln]; exact vals_take (vals_drop rv i) _, Heap.get?_push_size _ rfl⟩)
    refine h.run pins _ σ _ _ _ Q I2 ?_ (hw _ np)
    exact vals_app (vals_app (vals_take rv i) (.cons rfl .nil)) (by rw [← hln]; exact vals_drop (vals_drop rv i) _)
  rcases hq with hq | hq
  · obtain ⟨its, rv, ht, hz⟩ := I.tuple hq
    have hln := rv.length
    refine wpAny_bind (wpAny_holding (star_tup ht (I.ok.hd hc) hi (by rw [List.size_toArray]; omega) (by rw [List.size_toArray]; omega) fun h' tk hk => ?_))
    have := fin its h' tk rv hk hz
    simpa using this
  · obtain ⟨its, rv, ht, hz⟩ := I.list hq
    have hln := rv.length
    refine wpAny_bind (wpAny_holding (star_lst' ht.isList (I.ok.hd hc) hi (by rw [List.size_toArray]; omega) (by rw [List.size_toArray]; omega) fun h' tk hk => ?_))
    have := fin its h' tk rv hk hz
    simpa using this
end
section
variable {X : Cx} {pos : Pos}
theorem pgs_star {e : Expr} {es : List Expr} {t : TG} {u : TGs} {p : Pos} (h1 : PG X e t) (h2 : PGs X es u)
    (hs : (assignEach (.Starred e p :: es) X.env).map (·.2) = assign e X.env :: (assignEach es X.env).map (·.2) := by rfl) : PGs X (.Starred e p :: es) (gCons t u) := by
  refine ⟨fun pins s σ H vs us Q I r h => ?_⟩
  obtain ⟨v, vr, e1, h⟩ := h
  subst e1
  cases r with
  | cons r rr =>
    rw [hs]
    exact assignInOrder_cons (thn (h1.run pins s σ H _ _ _ I r h) fun _ s1 ⟨σ1, H1, I1, q1⟩ => h2.run pins s1 σ1 H1 _ _ Q I1 rr q1)
def starD (n i : Nat) (ds : List D) : List D := ds.take i ++ [.lst ((ds.drop i).take (ds.length + 1 - n))] ++ (ds.drop i).drop (ds.length + 1 - n)
def dStar (n i : Nat) (is : List Nat) : DG := fun d σ G R => match d with
  | .tup ds => n ≤ ds.length + 1 ∧ R (setAll σ is (starD n i ds)) G
  | .lst ds => n ≤ ds.length + 1 ∧ R (setAll σ is (starD n i ds)) G
  | _ => False
theorem rds_take {K : PySem.W.Frag} {H : Hp} {N : Ns} : ∀ {ds : List D} {vs : List V} (n : Nat), RDs K H N ds vs → RDs K H N (ds.take n) (vs.take n)
  | [], vs, n, h => by rw [h.of_nil]; simp; exact RDs.nil
  | d :: ds, vs, 0, h => RDs.nil
  | d :: ds, vs, n + 1, h => by
    obtain ⟨v, r, rfl, h1, h2⟩ := h.of_cons
    exact RDs.cons h1 (rds_take n h2)
theorem rds_drop {K : PySem.W.Frag} {H : Hp} {N : Ns} : ∀ {ds : List D} {vs : List V} (n : Nat), RDs K H N ds vs → RDs K H N (ds.drop n) (vs.drop n)
  | [], vs, n, h => by rw [h.of_nil]; simp; exact RDs.nil
  | d :: ds, vs, 0, h => h
  | d :: ds, vs, n + 1, h => by
    obtain ⟨v, r, rfl, h1, h2⟩ := h.of_cons
    exact rds_drop n h2
theorem rds_app {K : PySem.W.Frag} {H : Hp} {N : Ns} : ∀ {ds es : List D} {vs ws : List V}, RDs K H N ds vs → RDs K H N es ws → RDs K H N (ds ++ es) (vs ++ ws)
  | [], es, vs, ws, h, h' => by rw [h.of_nil]; exact h'
  | d :: ds, es, vs, ws, h, h' => by
    obtain ⟨v, r, rfl, h1, h2⟩ := h.of_cons
    exact RDs.cons h1 (rds_app h2 h')
theorem qg_star {es : List Expr} {k n i : Nat} {is : List Nat} (hc : X.calm = true) (h : PGs X es (gNames is)) (hi : i < n) (hl : is.length = n)
    (hn : (assignEach es X.env).length = n := by rfl) (hst : (assignEach es X.env).findIdx? (·.1) = some i := by rfl) : QG X (.Tuple es k pos) (dStar n i is) := pg_mono (pg_star hc h hi hn hst) fun v τ H Q h => by
  obtain ⟨d, σ, G, N, R, rd, rs, rg, h0, q⟩ := h
  have go : ∀ (p : Addr) (vs : List V) (ds : List D), RDs X.K H N ds vs → n ≤ ds.length + 1 → R (setAll σ is (starD n i ds)) G → H p = none →
      gNames is (vs.take i ++ [.ref p] ++ (vs.drop i).drop (vs.length + 1 - n)) τ (upd H p (.lst ((vs.drop i).take (vs.length + 1 - n)))) Q := by
    intro p vs ds r hln h0 np
    have hlv := r.length
    refine gNames_ok (by simp only [List.length_append, List.length_take, List.length_drop, List.length_cons, List.length_nil]; omega) ?_
    have s2 := Stp.newV (u := .lst ((vs.drop i).take (vs.length + 1 - n))) rg np
    refine q _ _ _ _ _ h0 s2 (RSt.setAll is (rs.le s2.kp) ?_)
    unfold starD
    rw [hlv]
    refine rds_app (rds_app (rds_take i (r.le s2.kp)) (RDs.cons ?_ RDs.nil)) (rds_drop _ (rds_drop i (r.le s2.kp)))
    exact RD.lst (.inl ⟨upd_same, fun z => z.1 rfl⟩) (rds_take _ (rds_drop i (r.le s2.kp)))
  unfold dStar at h0
  split at h0
  · obtain ⟨p, vs, rfl, sq, r⟩ := rd.of_tup
    exact ⟨p, vs, rfl, .inl sq, by rw [← r.length]; exact h0.1, fun p' np => go p' vs _ r h0.1 h0.2 np⟩
  · obtain ⟨p, vs, rfl, sq, r⟩ := rd.of_lst
    exact ⟨p, vs, rfl, .inr sq.sq, by rw [← r.length]; exact h0.1, fun p' np => go p' vs _ r h0.1 h0.2 np⟩
  · exact h0.elim
theorem starD_one (d : D) (ds : List D) : starD 2 1 (d :: ds) = [d, .lst ds] := by
  unfold starD
  simp
end
end DL

set_option Elab.async false
set_option linter.all false
set_option maxRecDepth 100000
set_option maxHeartbeats 4000000
set_option autoImplicit false
namespace DL
open PySem PySem.Spec PyProof.Rows L2
/-! ### the module's tuples and dicts -/
/-- what stands written: the value u is the data d, whatever else stands -/
def Kc (K : PySem.W.Frag) (d : D) (u : Value) : Prop := ∃ v, RelV v u ∧ ∀ H N, RD K H N d v
theorem rds_strs {K : PySem.W.Frag} {H : Hp} {N : Ns} : ∀ zs : List Str, RDs K H N (zs.map D.str) (zs.map V.str)
  | [] => RDs.nil
  | z :: zs => RDs.cons (RD.str z) (rds_strs zs)
theorem kc_tup {K : PySem.W.Frag} {p : Addr} {od : Option Addr} {its : Array Value} {n : Nat} {sl : Array (Option Value)} (zs : List Str) (l : K.lookup p = some ⟨.type "tuple", od, .seq its n, sl⟩) (h : Vals (zs.map V.str) its.toList) (hz : its.size ≤ sizeLine) : Kc K (.tup (zs.map D.str)) (.ref p) :=
  ⟨.ref p, rfl, fun H N => RD.tup (.inr ⟨_, its, n, l, rfl, rfl, hz, h⟩) (rds_strs zs)⟩
variable {X : Cx}
theorem qe_globD {x : Str} {p : Pos} {d : D} (hg : Gl X x) (hm : ∃ u, X.mg x = some u ∧ Kc X.K d u) (hdb : (x == ("__debug__" : Str)) = false := by decide) : QE X (.Name x p) (dC d) := by
  obtain ⟨u, hm, v, r, k⟩ := hm
  exact pe_mono (pe_glob hg hm r hdb) fun τ H Q h => by
    obtain ⟨σ, G, N, R, hs, hgg, ht, q⟩ := h
    exact q _ _ _ _ _ ht (Stp.refl hgg) (k H N)
def dInK (d : Addr) (kvs : List (Str × D)) (f : Bool → Bool) : DR2 := fun x y G R => match x with | .str z => y = .ref d ∧ R (.bl (f (kvs.lookup z).isSome)) G | _ => False
def dIxK (d : Addr) (kvs : List (Str × D)) : DR2 := fun x y G R => match y with | .str z => x = .ref d ∧ (match kvs.lookup z with | some v => R v G | none => False) | _ => False
inductive KvOk (K : PySem.W.Frag) : List (Str × D) → List (Str × Tok × Value) → Prop where
  | nil : KvOk K [] []
  | cons {k : Str} {t : Tok} {v : Value} {x : D} {kvs : List (Str × D)} {l : List (Str × Tok × Value)} : Kc K x v → KvOk K kvs l → KvOk K ((k, x) :: kvs) ((k, t, v) :: l)
end DL

set_option Elab.async false
set_option linter.all false
set_option maxRecDepth 100000
set_option maxHeartbeats 4000000
set_option autoImplicit false
namespace DL
open PySem PySem.Spec PyProof.Rows L2
/-! ### zip of lists and tuples in any mix: the kind of a source is told by a Bool (true: a list) -/
def sqB (l : Bool) (K : PySem.W.Frag) (H : Hp) (a : Addr) (xs : List V) : Prop := match l with | true => SqL K H a xs | false => SqT K H a xs
def itB (l : Bool) (h : Heap) (it a : Addr) (i : Nat) : Prop := match l with | true => h.IsListIter it a i | false => h.IsTupleIter it a i
def srB (l : Bool) (h : Heap) (a : Addr) (its : Array Value) : Prop := match l with | true => h.IsList a its | false => h.IsTuple a its
def boB (l : Bool) (a : Addr) : Obj := match l with | true => { cls := .type "list_iterator", data := .fields #[.ref a, .int 0 0] } | false => { cls := .type "tuple_iterator", data := .fields #[.ref a, .int 0 0] }
theorem drB {prog : Program} {w : World} {A : Around} (hh : A.handled = none) (l : Bool) (it a : Addr) (hne : a ≠ it) (its : Array Value) : Draws prog w A it [it, a] its.size (fun i v => its[i]? = some v) (fun i h => itB l h it a i ∧ srB l h a its) := by
  cases l
  · exact Draws.tuple hh it a hne its
  · exact Draws.list hh it a hne its
theorem beB (l : Bool) (a : Addr) (its : Array Value) : Begins (.ref a) (boB l a) fun h => srB l h a its := by
  cases l
  · exact begins_tuple a its
  · exact begins_list a its
theorem itB_at {l : Bool} {h h' : Heap} {it a : Addr} {i : Nat} (x : itB l h it a i) (k : ∀ o, h.get? it = some o → h'.get? it = some o) : itB l h' it a i := by
  cases l
  · exact Heap.IsTupleIter.at x k
  · exact Heap.IsListIter.at x k
theorem itB_obj {l : Bool} {h : Heap} {it a : Addr} {i : Nat} (x : itB l h it a i) : ∃ o, h.get? it = some o ∧ ∀ v, o.data ≠ .cell v := by
  cases l
  · obtain ⟨o, e, _, d⟩ := x; exact ⟨o, e, fun v q => by rw [d] at q; cases q⟩
  · obtain ⟨o, e, _, d⟩ := x; exact ⟨o, e, fun v q => by rw [d] at q; cases q⟩
theorem itB_new {l : Bool} {h : Heap} {it a : Addr} (e : h.get? it = some (boB l a)) : itB l h it a 0 := by
  cases l
  · exact ⟨_, e, rfl, rfl⟩
  · exact ⟨_, e, rfl, rfl⟩
theorem srB_of {X : Cx} {pins : List (Addr × Obj)} {σ : L2.St} {H : Hp} {s : Shared} {l : Bool} {a : Addr} {xs : List V} (I : Inv X pins σ H s) (h : sqB l X.K H a xs) : ∃ its : List Value, Vals xs its ∧ srB l s.heap a its.toArray ∧ a < s.heap.objs.size := by
  cases l
  · obtain ⟨its, rv, p, _⟩ := I.tuple h
    obtain ⟨o, ho, _⟩ := id p
    exact ⟨its, rv, p, Heap.lt_size ho⟩
  · obtain ⟨its, rv, p, _⟩ := I.list h
    exact ⟨its, rv, p.isList, p.lt⟩
theorem sqB_inj {X : Cx} {pins : List (Addr × Obj)} {σ : L2.St} {H : Hp} {s : Shared} {l : Bool} {a : Addr} {xs ys : List V} (I : Inv X pins σ H s) (h : sqB l X.K H a xs) (h' : sqB l X.K H a ys) : xs = ys := by
  cases l
  · exact I.tuple_inj h h'
  · exact I.list_inj h h'
def ItM (K : PySem.W.Frag) (l1 l2 : Bool) (a b : Addr) : It :=
  ⟨fun i H => ∃ (xs ys : List V) (x y : V), sqB l1 K H a xs ∧ sqB l2 K H b ys ∧ xs[i]? = some x ∧ ys[i]? = some y,
    fun i H v H' => ∃ T x y, v = .ref T ∧ H T = none ∧ H' = upd H T (.tup [x, y]) ∧ (∀ xs, sqB l1 K H a xs → xs[i]? = some x) ∧ ∀ ys, sqB l2 K H b ys → ys[i]? = some y,
    fun i H => ∃ xs ys : List V, sqB l1 K H a xs ∧ sqB l2 K H b ys ∧ min xs.length ys.length = i⟩
theorem turn_zipM {P : Program} {w : World} {K : PySem.W.Frag} {elts : List Expr} {kk : Nat} {tpos : Pos} {l1 l2 : Bool} {a b z TI TO i1 i2 : Addr} (S : ZipSep2 z TI TO i1 i2 [i1, a] [i2, b]) (ne1 : a ≠ i1) (ne2 : b ≠ i2) :
    Turn P w K (.Tuple elts kk tpos) (ItM K l1 l2 a b) [z, TI, TO, i1, i2] z (fun i h => IsZip h z TI TO .none ∧ IsTupOf2 h TI (.ref i1) (.ref i2) ∧ (∃ x y, IsTupOf2 h TO x y) ∧ itB l1 h i1 a i ∧ itB l2 h i2 b i) where
  mem := by simp
  obj := fun i h st c hc => by
    obtain ⟨hz, hTI, ⟨x, y, hTO⟩, s1, s2⟩ := st
    have e' : c = z ∨ c = TI ∨ c = TO ∨ c = i1 ∨ c = i2 := by simpa using hc
    rcases e' with rfl | rfl | rfl | rfl | rfl
    · exact ⟨_, hz, fun v q => nomatch q⟩
    · exact ⟨_, hTI, fun v q => nomatch q⟩
    · exact ⟨_, hTO, fun v q => nomatch q⟩
    · exact itB_obj s1
    · exact itB_obj s2
  keep := fun i h h' st k => by
    obtain ⟨hz, hTI, ⟨x, y, hTO⟩, s1, s2⟩ := st
    exact ⟨k _ (by simp) _ hz, k _ (by simp) _ hTI, ⟨x, y, k _ (by simp) _ hTO⟩, itB_at s1 fun o q => k _ (by simp) o q, itB_at s2 fun o q => k _ (by simp) o q⟩
  item := by
    intro X hP hw hK hc i pins s σ H E I hf st hg
    subst hP hw hK
    obtain ⟨xs, ys, x, y, hqx, hqy, hx, hy⟩ := hg
    obtain ⟨its, rv, p, la⟩ := srB_of I hqx
    obtain ⟨its2, rv2, p2, lb⟩ := srB_of I hqy
    obtain ⟨hz, hTI, hTO, h1, h2⟩ := st
    have h1' := itB_obj h1
    have h2' := itB_obj h2
    have n1 := rv.length
    have n2 := rv2.length
    have hi1 : i < xs.length := (List.getElem?_eq_some_iff.mp hx).1
    have hi2 : i < ys.length := (List.getElem?_eq_some_iff.mp hy).1
    have hh : X.A.in1.handled = none := I.ok.hd hc
    have W := GoesN.zip2 (prog := X.prog) (w := X.w) (A := X.A) (elts := elts) (x1 := kk) (pos := tpos) S (drB hh l1 i1 a ne1 its.toArray) (drB hh l2 i2 b ne2 its2.toArray)
    refine W.goes i s _ E (by simp only [List.size_toArray]; omega) ⟨hz, hTI, hTO, ⟨h1, p⟩, h2, p2⟩ fun v h' tk hY hSt hk htk => ?_
    obtain ⟨T, u, u2, rfl, hT, hu, hu2, hTT⟩ := hY
    obtain ⟨hz', hTI', hTO', ⟨h1'', _⟩, h2'', _⟩ := hSt
    obtain ⟨u0, hu0, ru⟩ := rv.get hx
    obtain ⟨u20, hu20, ru2⟩ := rv2.get hy
    have eu : u0 = u := by
      have : its[i]? = some u := by simpa using hu
      rw [hu0] at this; exact Option.some.inj this
    have eu2 : u20 = u2 := by
      have : its2[i]? = some u2 := by simpa using hu2
      rw [hu20] at this; exact Option.some.inj this
    subst eu eu2
    have lt5 : ∀ c ∈ [z, TI, TO, i1, i2], c < s.heap.objs.size := by
      intro c hcm
      obtain ⟨ta, tb, hTO⟩ := hTO
      have e' : c = z ∨ c = TI ∨ c = TO ∨ c = i1 ∨ c = i2 := by simpa using hcm
      rcases e' with rfl | rfl | rfl | rfl | rfl
      · exact Heap.lt_size hz
      · exact Heap.lt_size hTI
      · exact Heap.lt_size hTO
      · obtain ⟨_, e, _⟩ := h1'; exact Heap.lt_size e
      · obtain ⟨_, e, _⟩ := h2'; exact Heap.lt_size e
    have new : ObjOk X.prog X.w (upd H T (.tup [x, y])) h' T (.tup [x, y]) := ⟨by show 2 ≤ sizeLine; decide, [u0, u20], .cons ru (.cons ru2 .nil), hTT⟩
    have I1 : Inv X pins σ (upd H T (.tup [x, y])) { s with heap := h', toks := tk } :=
      I.turnedNew (t' := tk) (ch := [z, TI, TO, i1, i2]) (fun c o hb q => hk c o (fun m => hb (by simp only [List.mem_cons, List.not_mem_nil, or_false] at m ⊢; rcases m with m | m | m | m <;> simp [m])) q) hf hT new
    refine ⟨.ref T, _, I1, rfl, ⟨T, x, y, rfl, I.hok.fresh hT, rfl, fun l hl => by rw [sqB_inj I hl hqx]; exact hx, fun l hl => by rw [sqB_inj I hl hqy]; exact hy⟩, ⟨hz', hTI', hTO', h1'', h2''⟩, fun c hcm => ?_⟩
    rw [upd_ne (Nat.ne_of_lt (Nat.lt_of_lt_of_le (lt5 c hcm) hT))]
    exact (hf c hcm).1
  done := by
    intro X hP hw hK hc i pins s σ H E I hf st hg
    subst hP hw hK
    obtain ⟨xs, ys, hqx, hqy, hend⟩ := hg
    obtain ⟨its, rv, p, la⟩ := srB_of I hqx
    obtain ⟨its2, rv2, p2, lb⟩ := srB_of I hqy
    obtain ⟨hz, hTI, hTO, h1, h2⟩ := st
    have n1 := rv.length
    have n2 := rv2.length
    have hh : X.A.in1.handled = none := I.ok.hd hc
    have W := GoesN.zip2 (prog := X.prog) (w := X.w) (A := X.A) (elts := elts) (x1 := kk) (pos := tpos) S (drB hh l1 i1 a ne1 its.toArray) (drB hh l2 i2 b ne2 its2.toArray)
    have en : min its.toArray.size its2.toArray.size = i := by simp only [List.size_toArray]; omega
    rw [← en] at h1 h2
    exact W.stops s _ E ⟨hz, hTI, hTO, ⟨h1, p⟩, h2, p2⟩ fun h' tk hk htk => I.turnedL (t' := tk) (ch := [z, TI, TO, i1, i2]) (fun c o hb q => hk c o (fun m => hb (by simp only [List.mem_cons, List.not_mem_nil, or_false] at m ⊢; rcases m with m | m | m | m <;> simp [m])) q) hf
  self := fun A i s Q E st h => wpAny_pyIter_zip st.1 h
def iZipM (K : PySem.W.Frag) (ta : TA) : TI := fun σ H R => ta σ H fun vs H1 => ∃ l1 l2 a b xs ys, vs = [.ref a, .ref b] ∧ sqB l1 K H1 a xs ∧ sqB l2 K H1 b ys ∧ R (ItM K l1 l2 a b) H1
theorem pi_zipM {X : Cx} {e e2 : Expr} {ta : TA} {p pos tpos : Pos} {elts : List Expr} {kk : Nat} (hg : Gl X "zip") (hm : X.mg "zip" = none) (ha : PA X [e, e2] ta)
    (hs : starEach [e, e2] X.env = (false, eval e X.env) :: starEach [e2] X.env := by rfl) (hpl : (backTo pos (starEach [e2] X.env)).any (·.1) = false := by rfl) :
    PI X (.Tuple elts kk tpos) (.Call (.Name "zip" p) [e, e2] [] pos) (iZipM X.K ta) := by
  refine ⟨fun pins s σ H R I h => ?_⟩
  refine Call_ (ld_blt I hg hm PyProof.Rows.boot_zip (PyProof.Rows.callWith_type1 (thn (ha.run pos pins s σ H _ I h) fun us s1 ⟨vs, H1, I1, r1, q1⟩ => ?_) hs hpl))
  obtain ⟨l1, l2, a, b, xs, ys, ex, hqx, hqy, q⟩ := q1
  subst ex
  cases r1 with
  | cons r rr =>
    cases rr with
    | cons r' rr =>
      cases rr
      cases r
      cases r'
      obtain ⟨its, rv, p1, la⟩ := srB_of I1 hqx
      obtain ⟨its2, rv2, p2, lb⟩ := srB_of I1 hqy
      refine zip_begins2 (beB l1 a its.toArray) (beB l2 b its2.toArray) p1 p2 fun h' hz hTI hTO h1 h2 hsz hk => wpAny_pyIter_zip hz ?_
      have I2 : Inv X pins σ H1 { s1 with heap := h' } := I1.kept (t' := s1.toks) hk
      have S : ZipSep2 (s1.heap.objs.size + 4) (s1.heap.objs.size + 2) (s1.heap.objs.size + 3) s1.heap.objs.size (s1.heap.objs.size + 1) [s1.heap.objs.size, a] [s1.heap.objs.size + 1, b] :=
        zip_sep2 (N := s1.heap.objs.size) (fp1 := [a]) (fp2 := [b]) (fun c hc => by rw [List.mem_singleton] at hc; subst hc; exact la) (fun c hc => by rw [List.mem_singleton] at hc; subst hc; exact lb)
      refine ⟨s1.heap.objs.size + 4, [s1.heap.objs.size + 4, s1.heap.objs.size + 2, s1.heap.objs.size + 3, s1.heap.objs.size, s1.heap.objs.size + 1], _, _, H1, rfl, I2,
        turn_zipM (l1 := l1) (l2 := l2) S (Nat.ne_of_lt la) (Nat.ne_of_lt (Nat.lt_succ_of_lt lb)), ⟨hz, hTI, ⟨_, _, hTO⟩, itB_new h1, itB_new h2⟩, fun c hcm => ?_, q⟩
      have hle : s1.heap.objs.size ≤ c := by
        have e' : c = s1.heap.objs.size + 4 ∨ c = s1.heap.objs.size + 2 ∨ c = s1.heap.objs.size + 3 ∨ c = s1.heap.objs.size ∨ c = s1.heap.objs.size + 1 := by simpa using hcm
        rcases e' with z | z | z | z | z <;> rw [z] <;> first | exact Nat.le_refl _ | exact Nat.le_add_right _ _
      exact I1.fpOk hle (I1.hok.fresh hle)
theorem yl_zipM {K : PySem.W.Frag} {H0 : Hp} {N0 : Ns} {G0 : Gp} {l1 l2 : Bool} {a b : Addr} {ds es : List D} {gd : Gp → Prop} (h : ∀ H N G, Stp K H0 N0 G0 H N G → gd G → ∃ vs ws, sqB l1 K H a vs ∧ RDs K H N ds vs ∧ sqB l2 K H b ws ∧ RDs K H N es ws) : Yl K (ItM K l1 l2 a b) H0 N0 G0 (zipD ds es) gd := by
  refine ⟨fun i H N G d s g e => ?_, fun i H N G s g e => ?_⟩
  · obtain ⟨vs, ws, sq, r, sq', r'⟩ := h H N G s g
    rw [zipD_get] at e
    cases ed : ds[i]? with
    | none => rw [ed] at e; cases e
    | some d0 =>
      cases ee : es[i]? with
      | none => rw [ed, ee] at e; cases e
      | some e0 =>
        rw [ed, ee] at e
        cases e
        obtain ⟨v, hv, rv⟩ := r.get ed
        obtain ⟨u, hu, ru⟩ := r'.get ee
        refine ⟨⟨vs, ws, v, u, sq, sq', hv, hu⟩, fun x H' y => ?_⟩
        obtain ⟨T, x1, y1, rfl, nT, rfl, y, y'⟩ := y
        have e2 := y vs sq
        rw [hv] at e2; cases e2
        have e3 := y' ws sq'
        rw [hu] at e3; cases e3
        have s2 := Stp.new0 (u := .tup [v, u]) s.rel nT
        exact ⟨s2, RD.tup (.inl (.inl upd_same)) (RDs.cons (rv.le s2.kp) (RDs.cons (ru.le s2.kp) RDs.nil))⟩
  · obtain ⟨vs, ws, sq, r, sq', r'⟩ := h H N G s g
    rw [zipD_length] at e
    exact ⟨vs, ws, sq, sq', by rw [← r.length, ← r'.length]; exact e⟩
/-- a source, told by data -/
def srcD (G : Gp) : D → Option (Bool × List D × (Gp → Prop))
  | .tup ds => some (false, ds, fun _ => True)
  | .nt zs => some (false, zs.map .str, fun _ => True)
  | .lst ds => some (true, ds, fun _ => True)
  | .ref a => match G a with | some (.lst ds) => some (true, ds, fun G => G a = some (.lst ds)) | _ => none
  | _ => none
theorem srcD_ok {K : PySem.W.Frag} {H0 : Hp} {N0 : Ns} {G0 : Gp} {d : D} {v : V} {l : Bool} {ds : List D} {gd : Gp → Prop} (rg : RelG K H0 N0 G0) (rd : RD K H0 N0 d v) (h : srcD G0 d = some (l, ds, gd)) :
    ∃ a, v = .ref a ∧ (∃ vs, sqB l K H0 a vs) ∧ ∀ H N G, Stp K H0 N0 G0 H N G → gd G → ∃ vs, sqB l K H a vs ∧ RDs K H N ds vs := by
  unfold srcD at h
  split at h
  · cases h
    obtain ⟨p, vs, rfl, sq, r⟩ := rd.of_tup
    exact ⟨p, rfl, ⟨vs, sq⟩, fun H N G s _ => ⟨vs, SqT.le s.kp.kle sq, r.le s.kp⟩⟩
  · cases h
    obtain ⟨p, vs, rfl, sq, r⟩ := rd.nt_tup.of_tup
    exact ⟨p, rfl, ⟨vs, sq⟩, fun H N G s _ => ⟨vs, SqT.le s.kp.kle sq, r.le s.kp⟩⟩
  · cases h
    obtain ⟨p, vs, rfl, sq, r⟩ := rd.of_lst
    exact ⟨p, rfl, ⟨vs, sq.sq⟩, fun H N G s _ => ⟨vs, (sq.le s.kp).sq, r.le s.kp⟩⟩
  · split at h
    · rename_i e
      cases h
      obtain rfl := rd.of_ref
      obtain ⟨_, vs, hv, r⟩ := rg _ _ e
      refine ⟨_, rfl, ⟨vs, SqL.of hv⟩, fun H N G s g => ?_⟩
      obtain ⟨_, vs, hv, r⟩ := s.rel _ _ g
      exact ⟨vs, SqL.of hv, r⟩
    · cases h
  · cases h
def dZipM (ta : DA) : DI := fun σ G R => ta σ G fun ds G1 => match ds with
  | [x, y] => (match srcD G1 x, srcD G1 y with | some (_, xs, g1), some (_, ys, g2) => R (zipD xs ys) (fun G => g1 G ∧ g2 G) G1 | _, _ => False)
  | _ => False
theorem qi_zipM {X : Cx} {e e2 : Expr} {ta : DA} {p pos tpos : Pos} {elts : List Expr} {kk : Nat} (hg : Gl X "zip") (hm : X.mg "zip" = none) (ha : QA X [e, e2] ta)
    (hs : starEach [e, e2] X.env = (false, eval e X.env) :: starEach [e2] X.env := by rfl) (hpl : (backTo pos (starEach [e2] X.env)).any (·.1) = false := by rfl) :
    QI X (.Tuple elts kk tpos) (.Call (.Name "zip" p) [e, e2] [] pos) (dZipM ta) := pi_mono (pi_zipM hg hm ha hs hpl) fun τ H Q h => by
  obtain ⟨σ, G, N, R, hs, hg, ht, q⟩ := h
  refine ⟨σ, G, N, _, hs, hg, ht, fun ds G1 N1 vs H1 h1 s1 r1 => ?_⟩
  split at h1
  · rename_i x y
    split at h1
    · rename_i l1 xs g1 l2 ys g2 e1 e2
      obtain ⟨v, r, rfl, r2, r3⟩ := r1.of_cons
      obtain ⟨v', r', rfl, r4, r5⟩ := r3.of_cons
      rw [r5.of_nil]
      obtain ⟨a, rfl, ⟨vs, sq⟩, k1⟩ := srcD_ok s1.rel r2 e1
      obtain ⟨b, rfl, ⟨ws, sq'⟩, k2⟩ := srcD_ok s1.rel r4 e2
      refine ⟨l1, l2, a, b, vs, ws, rfl, sq, sq', q _ _ _ _ _ _ h1 s1 (yl_zipM fun H N G s g => ?_)⟩
      obtain ⟨vs, h1, h2⟩ := k1 H N G s g.1
      obtain ⟨ws, h3, h4⟩ := k2 H N G s g.2
      exact ⟨vs, ws, h1, h2, h3, h4⟩
    · exact h1.elim
  · exact h1.elim
end DL

set_option Elab.async false
set_option linter.all false
set_option maxRecDepth 100000
set_option maxHeartbeats 4000000
set_option autoImplicit false
namespace DL
open PySem PySem.Spec PyProof.Rows L2
/-! ### == of a dict and a text -/
section
variable {A : Around} {s : Shared}
end
variable {X : Cx}
end DL

set_option Elab.async false
set_option linter.all false
set_option maxRecDepth 100000
set_option maxHeartbeats 4000000
set_option autoImplicit false
namespace DL
open PySem PySem.Spec PyProof.Rows L2
/-! ### steps in applied form -/
/-- what goes on, kept shut -/
def Kont (P : Sd → Gp → Prop) : Sd → Gp → Prop := P
theorem kont_go {P : Sd → Gp → Prop} {σ : Sd} {G : Gp} (h : P σ G) : Kont P σ G := h
def br (b : Bool) (A B : Prop) : Prop := match b with | true => A | false => B
def isB (x : D) (k : Bool → Prop) : Prop := match x with | .bl b => k b | _ => False
def isI (x : D) (k : Int → Prop) : Prop := match x with | .int b => k b | _ => False
def isN (x : Option D) (k : D → Prop) : Prop := match x with | some b => k b | none => False
def slo (x : Option (Option D)) (k : D → Prop) : Prop := match x with | some (some d) => k d | _ => False
section
variable {A B : Prop} {b c : Bool} {k : Bool → Prop} {ki : Int → Prop} {kd : D → Prop} {i : Int} {d : D}
theorem br_t : br true A B = A := rfl
theorem br_f : br false A B = B := rfl
theorem br_not : br (!b) A B = br b B A := by cases b <;> rfl
theorem br_dec {P : Prop} [Decidable P] : br (decide P) A B = if P then A else B := by
  by_cases h : P
  · rw [decide_eq_true h, if_pos h] <;> rfl
  · rw [decide_eq_false h, if_neg h] <;> rfl
theorem br_and : br (b && c) A B = br b (br c A B) B := by cases b <;> rfl
theorem br_or : br (b || c) A B = br b A (br c A B) := by cases b <;> rfl
theorem isB_bl : isB (.bl b) k = k b := rfl
theorem isI_int : isI (.int i) ki = ki i := rfl
theorem isN_some : isN (some d) kd = kd d := rfl
theorem slo_some : slo (some (some d)) kd = kd d := rfl
end
section
variable {σ : Sd} {G : Gp} {R : DK} {Rb : Bool → Gp → Prop} {Ra : List D → Gp → Prop} {Rg : Sd → Gp → Prop} {E : DEnds} {i : Nat} {d : D} {ta tb tc : DE} {c c' : DT} {tr : DA} {r r' : DR2} {r1 : DR1} {s t u : DS} {g : DG} {ti : DI} {mk : Bool} {rn : DRn} {sp : DSp}
theorem x_var : dVar i σ G R = slo σ[i]? fun d => R d G := rfl
theorem x_c : dC d σ G R = R d G := rfl
theorem x_op : dOp r ta tb σ G R = ta σ G fun x G1 => tb σ G1 fun y G2 => r x y G2 R := rfl
theorem x_un : dUn r1 ta σ G R = ta σ G fun x G1 => r1 x G1 R := rfl
theorem x_b : dB ta σ G Rb = ta σ G fun x G1 => isB x fun b => Rb b G1 := rfl
theorem x_and : dAnd c c' σ G Rb = c σ G fun b G1 => br b (c' σ G1 Rb) (Rb false G1) := rfl
theorem x_or : dOr c c' σ G Rb = c σ G fun b G1 => br b (Rb true G1) (c' σ G1 Rb) := rfl
theorem x_not : dNot c σ G Rb = c σ G fun b G1 => Rb (!b) G1 := rfl
def isBB (x : D) (A B : Prop) : Prop := match x with | .bl true => A | .bl false => B | _ => False
theorem isBB_bl {b : Bool} {A B : Prop} : isBB (.bl b) A B = br b A B := by cases b <;> rfl
theorem x_chain : dChain r r' ta tb tc σ G R = ta σ G fun x G1 => tb σ G1 fun y G2 => r x y G2 fun z G3 => isBB z (tc σ G3 fun w G4 => r' y w G4 R) (R (.bl false) G3) := rfl
theorem x_andV : dAndV ta tb σ G R = ta σ G fun x G1 => isBB x (tb σ G1 R) (R (.bl false) G1) := rfl
theorem x_orV : dOrV ta tb σ G R = ta σ G fun x G1 => isBB x (R (.bl true) G1) (tb σ G1 R) := rfl
theorem x_notV : dNotV ta σ G R = ta σ G fun x G1 => isB x fun b => R (.bl (!b)) G1 := rfl
theorem x_if : dIf c ta tb σ G R = c σ G fun b G1 => br b (ta σ G1 R) (tb σ G1 R) := rfl
theorem x_nil : dNil σ G Ra = Ra [] G := rfl
theorem x_cons : dCons ta tr σ G Ra = ta σ G fun x G1 => tr σ G1 fun xs G2 => Ra (x :: xs) G2 := rfl
theorem x_tup : dTup tr σ G R = tr σ G fun ds G1 => ds.length ≤ sizeLine ∧ R (.tup ds) G1 := rfl
theorem x_lst0 : dLst false tr σ G R = tr σ G fun ds G1 => ds.length ≤ sizeLine ∧ R (.lst ds) G1 := rfl
theorem x_lst1 : dLst true tr σ G R = tr σ G fun ds G1 => ds.length ≤ sizeLine ∧ ∀ p, G1 p = none → R (.ref p) (gup G1 p (.lst ds)) := rfl
theorem x_callB : dCallB rn tr σ G R = tr σ G fun ds G1 => rn ds G1 R := rfl
theorem x_call : dCall sp tr σ G R = tr σ G fun ds G1 => sp ds G1 R := rfl
theorem x_callK {f : List D → List D} {n : Nat} : dCallK sp f n tr σ G R = tr σ G fun ds G1 => ds.length = n ∧ sp (f ds) G1 R := rfl
theorem x_next : dNext E σ G = E.nx σ G := rfl
theorem x_seq : dSeq t u E σ G = t { E with nx := Kont (u E) } σ G := rfl
theorem x_break : dBreak E σ G = E.bk σ G := rfl
theorem x_cont : dCont E σ G = E.ct σ G := rfl
theorem x_drop : dDrop ta E σ G = ta σ G fun _ G1 => E.nx σ G1 := rfl
/-- what is told, with what is still known: Wk -/
def Rt (R : DK) (d : D) (G : Gp) : Prop := ∃ d' G', Wk G d d' G' ∧ R d' G'
theorem rt_same {R : DK} {d : D} {G : Gp} (h : R d G) : Rt R d G := ret_same h
theorem x_ret : dRet ta E σ G = ta σ G fun d G1 => Rt E.rt d G1 := rfl
theorem x_ifS : dIfS c t u E σ G = c σ G fun b G1 => br b (t E σ G1) (u E σ G1) := rfl
theorem x_asg : dAsg ta g E σ G = ta σ G fun x G1 => g x σ G1 E.nx := rfl
theorem x_name : dName i d σ G Rg = Rg (σ.set i (some d)) G := rfl
theorem x_names {is : List Nat} {ds : List D} : dNames is (.tup ds) σ G Rg = (ds.length = is.length ∧ Rg (setAll σ is ds) G) := rfl
theorem x_sub {rs : DSet} : dSub ta tb rs d σ G Rg = ta σ G fun o G1 => tb σ G1 fun i G2 => rs o i d G2 fun G3 => Rg σ G3 := rfl
theorem x_aug : dAug i ta r E σ G = slo σ[i]? fun x => ta σ G fun y G1 => r x y G1 fun z G2 => E.nx (σ.set i (some z)) G2 := rfl
theorem x_augS {rs : DSet} : dAugS ta tb tc r r' rs E σ G = ta σ G fun o G1 => tb σ G1 fun i G2 => r o i G2 fun x G3 => tc σ G3 fun y G4 => r' x y G4 fun z G5 => rs o i z G5 fun G6 => E.nx σ G6 := rfl
theorem x_for : dFor ti g t E σ G = ti σ G fun xs gd G1 => dForGo g t gd E xs σ G1 := rfl
theorem x_lc0 {ws : List Nat} : dLc false ti g c tb ws σ G R = ti σ G fun xs gd G1 => xs.length ≤ sizeLine ∧ dLcGo g c tb gd (wipeD σ ws) xs [] G1 fun ds G2 => R (.lst ds) G2 := rfl
theorem x_lc1 {ws : List Nat} : dLc true ti g c tb ws σ G R = ti σ G fun xs gd G1 => xs.length ≤ sizeLine ∧ dLcGo g c tb gd (wipeD σ ws) xs [] G1 fun ds G2 => ∀ p, G2 p = none → R (.ref p) (gup G2 p (.lst ds)) := rfl
theorem x_yes : dYes σ G Rb = Rb true G := rfl
theorem x_noPart {Ro : Option Int → Gp → Prop} : dNoPart σ G Ro = Ro none G := rfl
theorem x_part {Ro : Option Int → Gp → Prop} : dPart ta σ G Ro = ta σ G fun x G1 => isI x fun i => Ro (some i) G1 := rfl
theorem x_slice {tl th : DO} : dSlice mk ta tl th σ G R = ta σ G fun x G1 => tl σ G1 fun l G2 => th σ G2 fun u G3 => dSl mk x l u G3 R := rfl
abbrev DIk := List D → (Gp → Prop) → Gp → Prop
/-- what is gone through: lists that nobody changes, texts, known lists -/
def itD (x : D) (G1 : Gp) (R : DIk) : Prop := match x with
  | .tup ds => R ds (fun _ => True) G1
  | .nt zs => R (zs.map .str) (fun _ => True) G1
  | .lst ds => R ds (fun _ => True) G1
  | .str z => R (signsD z) (fun _ => True) G1
  | .ref a => match G1 a with | some (.lst ds) => R ds (fun G => G a = some (.lst ds)) G1 | _ => False
  | _ => False
variable {Ri : DIk}
theorem x_iter : dIter ta σ G Ri = ta σ G fun x G1 => itD x G1 Ri := rfl
theorem it_t {ds : List D} : itD (.tup ds) G Ri = Ri ds (fun _ => True) G := rfl
theorem it_n {zs : List Str} : itD (.nt zs) G Ri = Ri (zs.map .str) (fun _ => True) G := rfl
theorem it_l {ds : List D} : itD (.lst ds) G Ri = Ri ds (fun _ => True) G := rfl
theorem it_s {z : Str} : itD (.str z) G Ri = Ri (signsD z) (fun _ => True) G := rfl
/-- a list that is known, by what it holds -/
def atL (o : Option GO) (k : List D → Prop) : Prop := match o with | some (.lst ds) => k ds | _ => False
theorem atL_lst {ds : List D} {k : List D → Prop} : atL (some (.lst ds)) k = k ds := rfl
theorem it_r {a : Addr} : itD (.ref a) G Ri = atL (G a) fun ds => Ri ds (fun G => G a = some (.lst ds)) G := rfl
theorem x_rng1 : dRng1 tr σ G Ri = tr σ G fun ds G1 => match ds with | [.int j] => -(2 ^ 62) ≤ j ∧ j < 2 ^ 62 ∧ Ri (rng 0 j.toNat) (fun _ => True) G1 | _ => False := rfl
theorem x_enum : dEnum tr σ G Ri = tr σ G fun ds G1 => match ds with
  | [.lst xs] => Ri (enumD 0 xs) (fun _ => True) G1
  | [.ref a] => (match G1 a with | some (.lst xs) => Ri (enumD 0 xs) (fun G => G a = some (.lst xs)) G1 | _ => False)
  | _ => False := rfl
theorem x_rev : dRev mk ta σ G R = ta σ G fun x G1 => match x with
  | .tup ds => R (.tup ds.reverse) G1
  | x => match lstOf G1 x with | some ds => newL mk ds.reverse G1 R | none => False := rfl
theorem x_m {T : String} {r : D → List D → Gp → DK → Prop} : dM T r ta tr σ G R = ta σ G fun x G1 => mty G1 x = some T ∧ tr σ G1 fun ds G2 => r x ds G2 R := rfl
theorem x_m0 {T : String} {r : D → List D → Gp → DK → Prop} : dM0 T r ta σ G R = ta σ G fun x G1 => mty G1 x = some T ∧ r x [] G1 R := rfl
theorem x_zip : dZipM tr σ G Ri = tr σ G fun ds G1 => match ds with
  | [x, y] => (match srcD G1 x, srcD G1 y with | some (_, xs, g1), some (_, ys, g2) => Ri (zipD xs ys) (fun G => g1 G ∧ g2 G) G1 | _, _ => False)
  | _ => False := rfl
theorem x_star_t {n j : Nat} {is : List Nat} {ds : List D} : dStar n j is (.tup ds) σ G Rg = (n ≤ ds.length + 1 ∧ Rg (setAll σ is (starD n j ds)) G) := rfl
theorem x_star_l {n j : Nat} {is : List Nat} {ds : List D} : dStar n j is (.lst ds) σ G Rg = (n ≤ ds.length + 1 ∧ Rg (setAll σ is (starD n j ds)) G) := rfl
theorem x_lenSet : dLenSet ta σ G R = ta σ G fun x G1 => match (seqOf G1 x).bind keysD with | some ks => ks.length + 1 < scanBound ∧ R (.int (uniq ks).length) G1 | none => False := rfl
theorem x_while : dWhile c t E σ G = ∃ n, dWhN c t E n σ G := rfl
theorem x_forgo0 {gd : Gp → Prop} : dForGo g t gd E [] σ G = (gd G ∧ E.nx σ G) := rfl
theorem x_lcgo0 {gd : Gp → Prop} {acc : List D} {Q : List D → Gp → Prop} : dLcGo g c ta gd σ [] acc G Q = (gd G ∧ Q acc G) := rfl
/-- things at places -/
theorem ix_t {as : List D} {i : Int} : dIx (.tup as) (.int i) G R = isN (atI as i) fun d => R d G := rfl
theorem ix_l {as : List D} {i : Int} : dIx (.lst as) (.int i) G R = isN (atI as i) fun d => R d G := rfl
theorem ix_r {a : Addr} {i : Int} : dIx (.ref a) (.int i) G R = atL (G a) fun ds => isN (atI ds i) fun d => R d G := by
  cases e : G a with
  | none => simp only [dIx, seqOf, lstOf, atL, e]
  | some o =>
    cases o with
    | lst ds => simp only [dIx, seqOf, lstOf, atL, isN, e] <;> rfl
    | _ => simp only [dIx, seqOf, lstOf, atL, e]
end
theorem at_0 {α : Type} {a : α} {xs : List α} : atI (a :: xs) 0 = some a := atI_nat (xs := a :: xs) (j := 0) (v := a) rfl
theorem at_1 {α : Type} {a b : α} {xs : List α} : atI (a :: b :: xs) 1 = some b := atI_nat (xs := a :: b :: xs) (j := 1) (v := b) rfl
theorem at_2 {α : Type} {a b c : α} {xs : List α} : atI (a :: b :: c :: xs) 2 = some c := atI_nat (xs := a :: b :: c :: xs) (j := 2) (v := c) rfl
theorem at_3 {α : Type} {a b c d : α} {xs : List α} : atI (a :: b :: c :: d :: xs) 3 = some d := atI_nat (xs := a :: b :: c :: d :: xs) (j := 3) (v := d) rfl
theorem at_4 {α : Type} {a b c d e : α} {xs : List α} : atI (a :: b :: c :: d :: e :: xs) 4 = some e := atI_nat (xs := a :: b :: c :: d :: e :: xs) (j := 4) (v := e) rfl
theorem at_5 {α : Type} {a b c d e f : α} {xs : List α} : atI (a :: b :: c :: d :: e :: f :: xs) 5 = some f := atI_nat (xs := a :: b :: c :: d :: e :: f :: xs) (j := 5) (v := f) rfl
end DL

set_option Elab.async false
set_option linter.all false
set_option maxRecDepth 100000
set_option maxHeartbeats 4000000
set_option autoImplicit false
namespace DL
open PySem PySem.Spec PyProof.Rows L2
/-! ### sorted(xs, key=f), f a def -/
section
variable {prog : Program} {w : World} {A : Around} {E : Value → Shared → Prop} {s : Shared} {a kS : Addr} {vs : List Value} {keys : Array Value} {e e1 : Nat} {P : PySem.Fin → Shared → Prop}
end
section
variable {X : Cx} {f : Addr} {fd : FuncData} {pr : Str} {sp : Sp} {k : Nat}
end
end DL

set_option Elab.async false
set_option linter.all false
set_option maxRecDepth 100000
set_option maxHeartbeats 4000000
set_option autoImplicit false
namespace DL
open PySem PySem.Spec PyProof.Rows L2
/-! ### sorted(xs, key=f), by data: keys that are a number and a text -/
def ltK (a b : Int × Str) : Bool := decide (a.1 < b.1) || (decide (a.1 = b.1) && sLt a.2 b.2)
def leK (a b : Int × Str) : Bool := !ltK b a
def keyP : D → Option (Int × Str)
  | .tup [.int i, .str x] => some (i, x)
  | _ => none
def keysP : List D → Option (List (Int × Str))
  | [] => some []
  | d :: ds => match keyP d, keysP ds with | some k, some ks => some (k :: ks) | _, _ => none
def pyK (k : Int × Str) : PyData := .tuple [.int k.1, .str k.2]
theorem lex_pyK (a b : Int × Str) : PyProof.Rows.lexLt itemOrd (PySem.W.keyToks (pyK a)) (PySem.W.keyToks (pyK b)) = ltK a b := by
  obtain ⟨i, x⟩ := a
  obtain ⟨j, y⟩ := b
  have e : PyProof.Rows.lexLt itemOrd (PySem.W.keyToks (pyK (i, x))) (PySem.W.keyToks (pyK (j, y))) = (decide ((1:Int) < 1) || (!decide ((1:Int) < 1) && (decide (i < j) || (!decide (j < i) && (decide ((1:Int) < 1) || (!decide ((1:Int) < 1) && (decide (x.cps.toList < y.cps.toList) || (!decide (y.cps.toList < x.cps.toList) && (decide ((0:Int) < 0) || (!decide ((0:Int) < 0) && false)))))))))) := rfl
  rw [e]
  simp only [ltK, sLt]
  by_cases h1 : i < j
  · simp [h1]
  · by_cases h2 : i = j
    · subst h2
      simp
    · have : j < i := by omega
      simp [h1, h2, this]
def sortK {α : Type} (xs : List α) (kz : List (Int × Str)) : List α := ((xs.zip kz).mergeSort fun p q => leK p.2 q.2).map (·.1)
def dKeys (sp : DSp) : List D → List D → Gp → (List D → Gp → Prop) → Prop
  | [], ks, G, Q => Q ks G
  | x :: xs, ks, G, Q => sp [x] G (fun k G1 => dKeys sp xs (ks ++ [k]) G1 Q)
def dSortK1 (mk : Bool) (sp : DSp) (x : D) (G1 : Gp) (R : DK) : Prop := match seqOf G1 x with
  | some ds => dKeys sp ds [] G1 fun ks G2 => (match keysP ks with | some kz => ks.length = ds.length ∧ newL mk (sortK ds kz) G2 R | none => False)
  | none => False
def dSortK (mk : Bool) (sp : DSp) (te : DE) : DE := fun σ G R => te σ G fun x G1 => dSortK1 mk sp x G1 R
end DL

set_option Elab.async false
set_option linter.all false
set_option maxRecDepth 100000
set_option maxHeartbeats 4000000
set_option autoImplicit false
namespace DL
open PySem PySem.Spec PyProof.Rows L2
/-! ### methods, of tuples of texts too -/
theorem room100 {k : Nat} {A : Around} (r : Room k A) : A.units + 100 < cLine := by have := r.un; omega
section
variable {X : Cx}
def mtyX (G : Gp) : D → Option String
  | .nt _ => some "tuple"
  | d => mty G d
variable {o e : Expr} {es : List Expr} {to : DE} {t : DA} {name : Str} {apos cpos : Pos} {T id : String} {r : D → List D → Gp → DK → Prop}
def dMX (T : String) (r : D → List D → Gp → DK → Prop) (to : DE) (t : DA) : DE := fun σ G R => to σ G fun x G1 => mtyX G1 x = some T ∧ t σ G1 fun xs G2 => r x xs G2 R
end
section
variable {X : Cx}
theorem pure_list {ds : List D} (h : pyDs ds = true) : ∃ as, toPys ds = some as ∧ PyData.plainAll as = true := by
  obtain ⟨as, h1, h2, _⟩ := toPys_pure h
  exact ⟨as, h1, PyData.plainAll_of_canLay0 as h2⟩
theorem pure_one {d : D} (h : pyD d = true) : ∃ a, toPy d = some a ∧ a.plain = true ∧ a.depth = depD d := by
  obtain ⟨a, h1, h2, h3⟩ := toPy_pure h
  exact ⟨a, h1, PyData.plain_of_canLay0 a h2, h3⟩
theorem toPys_map {ds : List D} {as : List PyData} (h : toPys ds = some as) : ∀ {x : D} {a : PyData} (f : Bool → Nat), toPy x = some a → as.map (fun z => PyData.eqv z a) = ds.map fun z => eqD z x := by
  induction ds generalizing as with
  | nil => intro x a f hx; simp only [toPys] at h; cases h; rfl
  | cons d ds ih =>
    intro x a f hx
    simp only [toPys] at h
    split at h
    · rename_i b bs e1 e2
      cases h
      simp only [List.map_cons, ih e2 f hx, eqv_eqD e1 hx]
    · cases h
theorem any_map' {α : Type} (p : α → Bool) (l : List α) : l.any p = (l.map p).any id := by rw [List.any_map] <;> rfl
/-! ### in, of data -/
def dInE (f : Bool → Bool) : DR2 := fun x y G R => match x, y with
  | .str a, .str b => dInW f (.str a) (.str b) G R
  | x, y => match seqOf G y with | some ds => pyD x = true ∧ pyDs ds = true ∧ depD x ≤ 60 ∧ R (.bl (f (ds.any fun z => eqD z x))) G | none => False
theorem in_dataV {op : CmpOp} {f : Bool → Bool} (hu : X.A.units + 100 < cLine)
    (hL : ∀ {s : Shared} {c x : Value} {xs : List PyData} {d : PyData} {as bs : List Addr} {Q : Value → Shared → Prop}, Reads s.heap c (.list xs) as → Reads s.heap x d bs → PyData.plainAll xs = true → d.plain = true → X.A.units + 1 + min (PyData.depthAll xs) d.depth < cLine → Q (.bool (f (xs.any fun y => PyData.eqv y d))) s → wpAny (model X.prog X.w) X.A (compareOp op x c) Q X.xe s)
    (hT : ∀ {s : Shared} {c x : Value} {xs : List PyData} {d : PyData} {as bs : List Addr} {Q : Value → Shared → Prop}, Reads s.heap c (.tuple xs) as → Reads s.heap x d bs → PyData.plainAll xs = true → d.plain = true → X.A.units + 1 + min (PyData.depthAll xs) d.depth < cLine → Q (.bool (f (xs.any fun y => PyData.eqv y d))) s → wpAny (model X.prog X.w) X.A (compareOp op x c) Q X.xe s) :
    OpR X (compareOp op) (upR2 X.K fun x y G R => match seqOf G y with | some ds => pyD x = true ∧ pyDs ds = true ∧ depD x ≤ 60 ∧ R (.bl (f (ds.any fun z => eqD z x))) G | none => False) := by
  intro pins s σ H x y v u Q I rx ry h
  obtain ⟨c, d, G, N, R, r1, r2, rg, h, q⟩ := h
  split at h
  · rename_i ds e
    obtain ⟨h1, h2, h3, h4⟩ := h
    obtain ⟨a, ea, pa, da⟩ := pure_one h1
    obtain ⟨as, es, ps⟩ := pure_list h2
    obtain ⟨_, rx'⟩ := Dp.reads I a x v (toPy_ok r1 ea) rx
    obtain ⟨p, vs, rfl, sq, rds⟩ := seqOf_ok rg r2 e
    have hroom : X.A.units + 1 + min (PyData.depthAll as) a.depth < cLine := by have := Nat.min_le_right (PyData.depthAll as) a.depth; omega
    have hres : (as.any fun y => PyData.eqv y a) = ds.any fun z => eqD z c := by rw [any_map', toPys_map es (fun _ => 0) ea, ← any_map']
    have fin : EP X pins σ Q (.bool (f (as.any fun y => PyData.eqv y a))) s := ⟨.bl _, H, I, rfl, by rw [hres]; exact q.at rg h4 (RD.bl _)⟩
    rcases sq with sq | sq
    · obtain ⟨_, ry'⟩ := Dp.reads I (.list as) (.ref p) u (.lst sq (toPys_ok rds es)) ry
      exact hL ry' rx' ps pa hroom fin
    · obtain ⟨_, ry'⟩ := Dp.reads I (.tuple as) (.ref p) u (.tup sq (toPys_ok rds es)) ry
      exact hT ry' rx' ps pa hroom fin
  · exact h.elim
theorem inE_of {f : Value → Value → Sem Value} {g : Bool → Bool} (h1 : OpD X f (dInW g)) (h2 : OpR X f (upR2 X.K fun x y G R => match seqOf G y with | some ds => pyD x = true ∧ pyDs ds = true ∧ depD x ≤ 60 ∧ R (.bl (g (ds.any fun z => eqD z x))) G | none => False)) : OpD X f (dInE g) :=
  opr_mono (OpR.or h1 h2) fun x y H Q h => by
    obtain ⟨c, d, G, N, R, r1, r2, rg, h, q⟩ := h
    unfold dInE at h
    split at h
    · exact .inl ⟨_, _, G, N, R, r1, r2, rg, h, q⟩
    · exact .inr ⟨c, d, G, N, R, r1, r2, rg, h, q⟩
theorem od_inE (hu : X.A.units + 100 < cLine) : OpD X (compareOp .In) (dInE id) := inE_of od_in (in_dataV hu (fun a b c d e h => SeqAt.in_list_data a b c d e h) fun a b c d e h => SeqAt.in_tuple_data a b c d e h)
/-! ### the order of data -/
def dCmpE (pi : Int → Int → Bool) (ps : Str → Str → Bool) (pk : Bool → Bool → Bool) : DR2 := fun x y G R => match x, y with
  | .int i, .int j => R (.bl (pi i j)) G
  | .str a, .str b => R (.bl (ps a b)) G
  | x, y => match toPy x, toPy y with | some a, some b => PySem.W.alike a b = true ∧ a ≠ .none ∧ a.depth ≤ 60 ∧ R (.bl (pk (PySem.W.dataLt a b) (PySem.W.dataLt b a))) G | _, _ => False
theorem cmpE_of {f : Value → Value → Sem Value} {pi : Int → Int → Bool} {ps : Str → Str → Bool} {pk : Bool → Bool → Bool} (hu : X.A.units + 100 < cLine) (h1 : OpD X f (dOrd pi ps))
    (h2 : ∀ {s : Shared} {a b : Value} {da db : PyData} {as bs : List Addr} {Q : Value → Shared → Prop}, Reads s.heap a da as → Reads s.heap b db bs → PySem.W.alike da db = true → da ≠ .none → X.A.units + min da.depth db.depth < cLine → Q (.bool (pk (PySem.W.dataLt da db) (PySem.W.dataLt db da))) s → wpAny (model X.prog X.w) X.A (f a b) Q X.xe s) : OpD X f (dCmpE pi ps pk) := by
  have h3 : OpR X f (upR2 X.K fun x y G R => match toPy x, toPy y with | some a, some b => PySem.W.alike a b = true ∧ a ≠ .none ∧ a.depth ≤ 60 ∧ R (.bl (pk (PySem.W.dataLt a b) (PySem.W.dataLt b a))) G | _, _ => False) := by
    intro pins s σ H x y v u Q I rx ry h
    obtain ⟨c, d, G, N, R, r1, r2, rg, h, q⟩ := h
    split at h
    · rename_i a b ea eb
      obtain ⟨h4, h5, h6, h7⟩ := h
      obtain ⟨_, rx'⟩ := Dp.reads I a x v (toPy_ok r1 ea) rx
      obtain ⟨_, ry'⟩ := Dp.reads I b y u (toPy_ok r2 eb) ry
      exact h2 rx' ry' h4 h5 (by have := Nat.min_le_left a.depth b.depth; omega) ⟨.bl _, H, I, rfl, q.at rg h7 (RD.bl _)⟩
    · exact h.elim
  exact opr_mono (OpR.or h1 h3) fun x y H Q h => by
    obtain ⟨c, d, G, N, R, r1, r2, rg, h, q⟩ := h
    unfold dCmpE at h
    split at h
    · exact .inl ⟨_, _, G, N, R, r1, r2, rg, h, q⟩
    · exact .inl ⟨_, _, G, N, R, r1, r2, rg, h, q⟩
    · exact .inr ⟨c, d, G, N, R, r1, r2, rg, h, q⟩
def dLtE : DR2 := dCmpE (fun i j => decide (i < j)) (fun a b => sLt a b) fun l _ => l
theorem od_ltE (hu : X.A.units + 100 < cLine) : OpD X (compareOp .Lt) dLtE := cmpE_of hu od_lt fun a b c d e h => PySem.W.lt_data a b c d e h
theorem ltE_key {i j : Int} {x y : Str} {G : Gp} {R : DK} : dLtE (.tup [.int i, .str x]) (.tup [.int j, .str y]) G R = R (.bl (ltK (i, x) (j, y))) G := by
  have e := lex_pyK (i, x) (j, y)
  show (PySem.W.alike _ _ = true ∧ _ ∧ _ ∧ R (.bl (PySem.W.dataLt (pyK (i, x)) (pyK (j, y)))) G) = _
  rw [show PySem.W.dataLt (pyK (i, x)) (pyK (j, y)) = ltK (i, x) (j, y) from e]
  refine propext ⟨fun h => h.2.2.2, fun h => ⟨rfl, by simp, ?_, h⟩⟩
  simp only [pyK, PyData.depth, PyData.depthAll]
  omega
theorem ltE_ii {i j : Int} {G : Gp} {R : DK} : dLtE (.int i) (.int j) G R = R (.bl (decide (i < j))) G := rfl
theorem ltE_ss {i j : Str} {G : Gp} {R : DK} : dLtE (.str i) (.str j) G R = R (.bl (sLt i j)) G := rfl
/-! ### count, index, remove .. -/
end
end DL

set_option Elab.async false
set_option linter.all false
set_option maxRecDepth 100000
set_option maxHeartbeats 4000000
set_option autoImplicit false
namespace DL
open PySem PySem.Spec PyProof.Rows L2
section
variable {X : Cx}
/-! ### what changes lists -/
theorem UpQ.wr {K : PySem.W.Frag} {H : Hp} {N : Ns} {G : Gp} {R : DK} {Q : VK} (q : UpQ K H N G R Q) (rg : RelG K H N G) {a : Addr} {ds es : List D} {vs us : List V} {d : D} {v : V} (e : G a = some (.lst ds)) (hv : H a = some (.lst vs)) (rd : RDs K H N es us) (rv : RD K H N d v) (h : R d (gup G a (.lst es))) : Q v (upd H a (.lst us)) := by
  have kw := Kp.write (u := .lst us) (rg a _ e).1 hv rfl rfl
  exact q _ _ N _ _ h (Stp.write (u := .lst us) rg e hv rfl rfl ⟨_, upd_same, rd.le kw⟩) (rv.le kw)
/-! ### a new tuple of texts -/
/-! ### a def in a local name, one of several -/
variable {x : Str} {i k : Nat} {e : Expr} {es : List Expr} {t : DA} {p pos : Pos}
end
end DL

set_option Elab.async false
set_option linter.all false
set_option maxRecDepth 100000
set_option maxHeartbeats 4000000
set_option autoImplicit false
namespace DL
open PySem PySem.Spec PyProof.Rows L2
section
variable {σ : Sd} {G : Gp} {R : DK} {ta : DE} {tr : DA}
theorem x_mX {T : String} {r : D → List D → Gp → DK → Prop} : dMX T r ta tr σ G R = ta σ G fun x G1 => mtyX G1 x = some T ∧ tr σ G1 fun ds G2 => r x ds G2 R := rfl
theorem ix_n {zs : List Str} {i : Int} : dIx (.nt zs) (.int i) G R = isN (atI (zs.map .str) i) fun d => R d G := rfl
theorem x_sortK {mk : Bool} {sp : DSp} : dSortK mk sp ta σ G R = ta σ G fun x G1 => dSortK1 mk sp x G1 R := rfl
theorem len_nt {zs : List Str} : dLen [.nt zs] G R = R (.int zs.length) G := by
  show R (.int (zs.map D.str).length) G = _
  rw [List.length_map]
theorem app_r {a : Addr} {y : D} : dAppend (.ref a) [y] G R = atL (G a) fun ds => ds.length < sizeLine ∧ R .non (gup G a (.lst (ds ++ [y]))) := rfl
theorem int_b {b : Bool} : dInt [.bl b] G R = R (.int (if b then 1 else 0)) G := rfl
theorem int_i {i : Int} : dInt [.int i] G R = R (.int i) G := rfl
theorem strI_i {i : Int} : dStrI [.int i] G R = (i.natAbs.log2 < 1920 ∧ R (.str (toString i)) G) := rfl
def dStrX : DRn := fun cs G R => match cs with | [.str z] => R (.str z) G | cs => dStrI cs G R
theorem strX_i {i : Int} : dStrX [.int i] G R = (i.natAbs.log2 < 1920 ∧ R (.str (toString i)) G) := rfl
theorem strX_s {z : Str} : dStrX [.str z] G R = R (.str z) G := rfl
theorem callr_or {X : Cx} {f : Value} {r1 r2 : List V → Hp → VK → Prop} (h1 : CallR X f r1) (h2 : CallR X f r2) : CallR X f fun xs H Q => r1 xs H Q ∨ r2 xs H Q := fun pins s σ H xs us Q I r h => h.elim (h1 pins s σ H xs us Q I r) (h2 pins s σ H xs us Q I r)
theorem cd_strX {X : Cx} : CallD X (.type "str") dStrX := callr_mono (callr_or (cd_strI (X := X)) (SkE.call_str_str (X := X))) fun xs H Q h => by
  obtain ⟨cs, G, N, R, r1, rg, h, q⟩ := h
  unfold dStrX at h
  split at h
  · obtain ⟨v, r, rfl, r2, r3⟩ := r1.of_cons
    rw [r3.of_nil, r2.of_str]
    exact .inr ⟨_, rfl, q.at rg h (RD.str _)⟩
  · exact .inl ⟨cs, G, N, R, r1, rg, h, q⟩
theorem log_small {k : Nat} (h : k ≤ 100000) : ((k : Int).natAbs).log2 < 1920 := by
  rw [Int.natAbs_natCast]
  by_cases e : k = 0
  · subst e; decide
  · have h1 : k < 2 ^ 1920 := Nat.lt_of_le_of_lt h (by decide +kernel)
    exact (Nat.log2_lt e).mpr h1
end
theorem ofString_inj {a b : String} : (Str.ofString a = Str.ofString b) = (a = b) := by
  refine propext ⟨fun h => ?_, fun h => by rw [h]⟩
  rw [Str.ofString_eq_toList, Str.ofString_eq_toList] at h
  have h1 : a.toList.map Char.toNat = b.toList.map Char.toNat := congrArg (fun s : Str => s.cps.toList) h
  have inj : ∀ l m : List Char, l.map Char.toNat = m.map Char.toNat → l = m := by
    intro l
    induction l with
    | nil => intro m e; cases m <;> simp_all
    | cons c l ih =>
      intro m e
      cases m with
      | nil => simp at e
      | cons d m =>
        simp only [List.map_cons, List.cons.injEq] at e
        have : c = d := Char.toNat_inj.mp e.1
        rw [this, ih m e.2]
  exact String.toList_inj.mp (inj _ _ h1)
theorem len_lit {a : String} : (Str.ofString a).length = a.length := by
  rw [Str.ofString_eq_toList]
  unfold Str.length
  simp [String.length_toList]
theorem len_app (a b : Str) : (a ++ b).length = a.length + b.length := by
  rw [← cds_len, ← cds_len, ← cds_len, cds_app, List.length_append]
theorem lc_cons {g : DG} {c : DT} {ta : DE} {σ : Sd} {gd : Gp → Prop} {x : D} {xs acc : List D} {G : Gp} {Q : List D → Gp → Prop} (h : gd G ∧ g x σ G fun σ2 G2 => c σ2 G2 fun b G3 => br b (ta σ2 G3 fun y G4 => dLcGo g c ta gd σ xs (acc ++ [y]) G4 Q) (dLcGo g c ta gd σ xs acc G3 Q)) : dLcGo g c ta gd σ (x :: xs) acc G Q := h
theorem for_cons {g : DG} {t : DS} {gd : Gp → Prop} {E : DEnds} {x : D} {xs : List D} {σ : Sd} {G : Gp} (h : gd G ∧ g x σ G fun σ2 G2 => t { E with nx := Kont (dForGo g t gd E xs), ct := Kont (dForGo g t gd E xs), bk := E.nx } σ2 G2) : dForGo g t gd E (x :: xs) σ G := h
theorem join_l {sep : Str} {G : Gp} {R : DK} {ds : List D} {zs : List Str} (e : strsOf ds = some zs) : dJoin (.str sep) [.lst ds] G R = ((zs.map fun z : Str => z.length).sum + zs.length * sep.length ≤ 16777216 ∧ R (.str (Txt.join sep zs)) G) := by
  show (match (seqOf G (.lst ds)).bind strsOf with | some ys => (ys.map fun z : Str => z.length).sum + ys.length * sep.length ≤ 16777216 ∧ R (.str (Txt.join sep ys)) G | none => False) = _
  have : (seqOf G (.lst ds)).bind strsOf = some zs := e
  rw [this]
theorem join_go {sep : Str} {G : Gp} {R : DK} {ds : List D} {zs : List Str} (e : strsOf ds = some zs) (hl : (zs.map fun z : Str => z.length).sum + zs.length * sep.length ≤ 16777216) (h : R (.str (Txt.join sep zs)) G) : dJoin (.str sep) [.lst ds] G R := by
  rw [join_l e]; exact ⟨hl, h⟩
theorem strsOf_strs (zs : List Str) : strsOf (zs.map D.str) = some zs := by
  induction zs with
  | nil => rfl
  | cons z zs ih => simp only [List.map_cons, strsOf, ih]
end DL

set_option Elab.async false
set_option linter.all false
set_option maxRecDepth 100000
set_option maxHeartbeats 4000000
set_option autoImplicit false
namespace DL
open PySem PySem.Spec PyProof.Rows L2
section
variable {X : Cx}
/-! ### isinstance(x, (a, b)) -/
def dIsiX : DRn := fun cs G R => match cs with
  | [x, .tup [.ty m, .ty n]] => m ∈ knownTy ∧ n ∈ knownTy ∧ (match tyD G x with | some t => R (.bl (isTy t m || isTy t n)) G | none => False)
  | cs => dIsi cs G R
theorem cd_isiX : CallD X (.builtin "isinstance") dIsiX := by
  intro pins s σ H xs us Q I r h
  obtain ⟨cs, G, N, R, rd, rg, h, q⟩ := h
  unfold dIsiX at h
  split at h
  · rename_i x m n
    obtain ⟨hm, hn, h⟩ := h
    obtain ⟨v, r', rfl, r1, r2⟩ := rd.of_cons
    obtain ⟨v', r'', rfl, r3, r4⟩ := r2.of_cons
    obtain rfl := r4.of_nil
    split at h
    · rename_i t et
      obtain ⟨ty, mt⟩ := tyD_ok rg r1 et
      obtain ⟨u1, u2, rfl, ru1, ru2⟩ := vals2 r
      obtain ⟨tp, vs, rfl, sq, rvs⟩ := r3.of_tup
      cases (show u2 = Value.ref tp from ru2)
      obtain ⟨a1, r5, rfl, e1, r6⟩ := rvs.of_cons
      obtain ⟨a2, r7, rfl, e2, r8⟩ := r6.of_cons
      obtain rfl := r8.of_nil
      obtain rfl := e1.of_ty
      obtain rfl := e2.of_ty
      obtain ⟨P, Z, p, hx⟩ := kit_of I ru1 ty
      obtain ⟨its, rv, ⟨o, h1, h2, k, h3⟩, _⟩ := I.tuple sq
      have e3 := ClsV.all (.cons (.ty m) (.cons (.ty n) .nil)) rv
      subst e3
      obtain ⟨oc, od, dt, sl⟩ := o
      simp only at h2 h3
      subst h2 h3
      have k1 := kit_ty (K := X.K) (kits t mt m hm)
      have k2 := kit_ty (K := X.K) (kits t mt n hn)
      refine PySem.W.kia_tup Z I.kIn p h1 (b := isTy t m || isTy t n) ?_ hx fun tk => ⟨.bl _, H, I.tok tk, rfl, q.at rg h (RD.bl _)⟩
      simp only [PySem.W.kitAny, k1, k2]
      cases isTy t m <;> cases isTy t n <;> rfl
    · exact h.elim
  · exact cd_isi pins s σ H xs us Q I r ⟨cs, G, N, R, rd, rg, h, q⟩
variable {G : Gp} {R : DK} {n m : String} {i : Int} {z : Str} {b : Bool} {ds : List D} {zs : List Str} {p : Addr}
theorem isi_i : dIsiX [.int i, .ty n] G R = (n ∈ knownTy ∧ R (.bl (isTy "int" n)) G) := rfl
theorem isi_s : dIsiX [.str z, .ty n] G R = (n ∈ knownTy ∧ R (.bl (isTy "str" n)) G) := rfl
theorem isi_b : dIsiX [.bl b, .ty n] G R = (n ∈ knownTy ∧ R (.bl (isTy "bool" n)) G) := rfl
theorem isi_n : dIsiX [.non, .ty n] G R = (n ∈ knownTy ∧ R (.bl (isTy "NoneType" n)) G) := rfl
theorem isi_t : dIsiX [.tup ds, .ty n] G R = (n ∈ knownTy ∧ R (.bl (isTy "tuple" n)) G) := rfl
theorem isi_nt : dIsiX [.nt zs, .ty n] G R = (n ∈ knownTy ∧ R (.bl (isTy "tuple" n)) G) := rfl
theorem isi_l : dIsiX [.lst ds, .ty n] G R = (n ∈ knownTy ∧ R (.bl (isTy "list" n)) G) := rfl
theorem isi2_i : dIsiX [.int i, .tup [.ty m, .ty n]] G R = (m ∈ knownTy ∧ n ∈ knownTy ∧ R (.bl (isTy "int" m || isTy "int" n)) G) := rfl
theorem isi2_s : dIsiX [.str z, .tup [.ty m, .ty n]] G R = (m ∈ knownTy ∧ n ∈ knownTy ∧ R (.bl (isTy "str" m || isTy "str" n)) G) := rfl
theorem isi2_b : dIsiX [.bl b, .tup [.ty m, .ty n]] G R = (m ∈ knownTy ∧ n ∈ knownTy ∧ R (.bl (isTy "bool" m || isTy "bool" n)) G) := rfl
theorem isi2_n : dIsiX [.non, .tup [.ty m, .ty n]] G R = (m ∈ knownTy ∧ n ∈ knownTy ∧ R (.bl (isTy "NoneType" m || isTy "NoneType" n)) G) := rfl
theorem isi2_t : dIsiX [.tup ds, .tup [.ty m, .ty n]] G R = (m ∈ knownTy ∧ n ∈ knownTy ∧ R (.bl (isTy "tuple" m || isTy "tuple" n)) G) := rfl
theorem isi2_nt : dIsiX [.nt zs, .tup [.ty m, .ty n]] G R = (m ∈ knownTy ∧ n ∈ knownTy ∧ R (.bl (isTy "tuple" m || isTy "tuple" n)) G) := rfl
theorem isi2_l : dIsiX [.lst ds, .tup [.ty m, .ty n]] G R = (m ∈ knownTy ∧ n ∈ knownTy ∧ R (.bl (isTy "list" m || isTy "list" n)) G) := rfl
theorem kt1 : ("int" ∈ knownTy) = True := by decide
theorem kt2 : ("bool" ∈ knownTy) = True := by decide
theorem kt3 : ("str" ∈ knownTy) = True := by decide
theorem kt4 : ("tuple" ∈ knownTy) = True := by decide
theorem kt5 : ("list" ∈ knownTy) = True := by decide
theorem kt6 : ("dict" ∈ knownTy) = True := by decide
end
/-! ### slices by numbers -/
theorem cut1 {α : Type} {a : α} {xs : List α} : cutL (a :: xs) (some 1) none = xs := by
  unfold cutL; simp [HT.sIx]
theorem cut2 {α : Type} {a b : α} {xs : List α} : cutL (a :: b :: xs) (some 2) none = xs := by
  unfold cutL; simp [HT.sIx]
/-! ### local lists -/
section
variable {G : Gp} {R : DK} {p : Addr} {d : D} {o : GO} {ds : List D}
theorem rt_drop (hp : G p = none) (h : R d G) : Rt R d (gup G p o) := ret_sub (Sub.new hp) h
theorem mty_up : mty (gup G p (.lst ds)) (.ref p) = some "list" := by unfold mty; simp only [gup_same]
theorem mty_at (e : G p = some (.lst ds)) : mty G (.ref p) = some "list" := by unfold mty; simp only [e]
theorem rt_lst (hp : G p = none) (h : R (.lst ds) G) : Rt R (.ref p) (gup G p (.lst ds)) := ret_lst gup_same (Sub.new hp) hp h
theorem join_gor {sep : Str} {zs : List Str} (e : G p = some (.lst ds)) (e2 : strsOf ds = some zs) (hl : (zs.map fun z : Str => z.length).sum + zs.length * sep.length ≤ 16777216) (h : R (.str (Txt.join sep zs)) G) : dJoin (.str sep) [.ref p] G R := by
  have : (seqOf G (.ref p)).bind strsOf = some zs := by
    have e3 : seqOf G (.ref p) = some ds := by unfold seqOf lstOf; simp only [e]
    rw [e3]; exact e2
  show (match (seqOf G (.ref p)).bind strsOf with | some ys => (ys.map fun z : Str => z.length).sum + ys.length * sep.length ≤ 16777216 ∧ R (.str (Txt.join sep ys)) G | none => False)
  rw [this]
  exact ⟨hl, h⟩
end
end DL

set_option Elab.async false
set_option linter.all false
set_option maxRecDepth 100000
set_option maxHeartbeats 4000000
set_option autoImplicit false
namespace DL
open PySem PySem.Spec PyProof.Rows L2
/-! ### the order of keys -/
/-! ### choosing the first least one, again and again, sorts -/
section
variable {α : Type} {le : α → α → Bool} (tr : ∀ a b c, le a b = true → le b c = true → le a c = true) (to : ∀ a b, (le a b || le b a) = true)
include tr to in
end
end DL

set_option Elab.async false
set_option linter.all false
set_option maxRecDepth 100000
set_option maxHeartbeats 4000000
set_option autoImplicit false
namespace DL
open PySem PySem.Spec PyProof.Rows L2
section
variable {G : Gp} {R : DK} {p q s : Addr} {d : D} {o o' u : GO} {ds es : List D} {mk : Bool}
theorem newL_t : newL true ds G R = ∀ p, G p = none → R (.ref p) (gup G p (.lst ds)) := rfl
theorem atL_at {k : List D → Prop} (e : G p = some (.lst ds)) : atL (G p) k = k ds := by rw [e] <;> rfl
theorem ne_empty (h : pyDs ds = true) (hd : depDs ds ≤ 60) : dNe (.lst ds) (.lst []) G R = R (.bl (decide (ds ≠ []))) G := by
  refine propext ((ne_pure (by simpa only [pyD] using h) rfl (by simp only [depD]; omega) (by simp [depD, depDs])).trans ?_)
  cases ds with
  | nil => simp [eqD, eqDs]
  | cons d ds => simp [eqD, eqDs]
theorem sub_keep (h : s ≠ p) (hp : G p = none) : Sub (gup G s o) (gup (gup G p u) s o) := by
  rw [gup_comm h.symm]
  exact Sub.new (by rw [gup_ne h.symm]; exact hp)
end
end DL

set_option Elab.async false
set_option linter.all false
set_option maxRecDepth 100000
set_option maxHeartbeats 4000000
set_option autoImplicit false
namespace DL
open PySem PySem.Spec PyProof.Rows L2
/-! ### data that can be keys, nested: their hashes -/
mutual
def hasK : PyData → Bool
  | .int _ => true | .str _ => true | .bool _ => true
  | .tuple xs => hasKs xs
  | _ => false
def hasKs : List PyData → Bool
  | [] => true
  | x :: xs => hasK x && hasKs xs
end
mutual
def hshK (w : World) : PyData → Int
  | .int i => hashInt i
  | .str x => hashStr w x
  | .bool b => hashInt (if b then 1 else 0)
  | .tuple xs => reduceHash (Builtin.Tuple.tupleHashOf (hshKs w xs))
  | _ => 0
def hshKs (w : World) : List PyData → List Int
  | [] => []
  | x :: xs => hshK w x :: hshKs w xs
end
mutual
def drwK : PyData → Nat
  | .tuple xs => drwKs xs + 1
  | _ => 1
def drwKs : List PyData → Nat
  | [] => 0
  | x :: xs => drwK x + drwKs xs
end
section
variable {prog : Program} {w : World}
variable {A : Around} {E : Value → Shared → Prop} {s : Shared}
/-- a hash by its type's own slot -/
theorem hash_slot {T id : String} {f : Builtin} {v : Value} {Q : Int → Shared → Prop} (hT : s.TypeIs v T) (room : [v].any Value.onHeap = false ∨ A.units < cLine) (sl : Slot T "__hash__" id) (en : entryFor table id = some f) (ok : argsOk id ⟨[v], []⟩) (ns : ∀ x t, v ≠ .str x t)
    (run : wpAny (model prog w) A.in1 (f ⟨[v], []⟩) (fun r s' => ∃ i t, r = .done (.ret (.int i t)) ∧ Q (reduceHash i) s') E s) : wpAny (model prog w) A (pyHash v) Q E s := by
  have e : pyHash v = pyHashByItsType v := by
    cases v with
    | str x t => exact absurd rfl (ns x t)
    | _ => rfl
  have nn : (some (Value.builtin id) == some Value.none) = false := by rw [beq_builtin_none]
  rw [e]
  unfold pyHashByItsType
  refine wpAny_bind (wpAny_cRoomFor_or room (wpAny_bind (wpAny_specialOf hT sl.lookup ?_)))
  simp only [nn, Bool.false_eq_true, if_false]
  refine wpAny_bind (wpAny_specialOf hT sl.lookup ?_)
  simp only [Option.isNone_some, Bool.false_eq_true, if_false]
  refine wpAny_bind (wpAny_callSpecialIfBoundUnlessNone?_slot hT sl (wpAny_call_entry sl hT en (wpAny_mono run (fun r s' h => ?_) fun _ _ x => x) ok))
  obtain ⟨i, t, rfl, q⟩ := h
  refine ⟨_, rfl, ?_⟩
  show wpAny _ _ (pyHashByItsType.reduced i) Q E s'
  unfold pyHashByItsType.reduced
  unfold reduceHash at q
  cases c : (decide (-(2 ^ 63 : Int) ≤ i) && decide (i < 2 ^ 63)) with
  | true =>
    rw [c] at q
    simp only [if_true] at q ⊢
    exact wpAny_pure q
  | false =>
    rw [c] at q
    simp only [Bool.false_eq_true, if_false] at q ⊢
    exact wpAny_bind (wpAny_rule (wpAny_pure q))
theorem hash_bool {b : Bool} {Q : Int → Shared → Prop} (q : Q (hashInt (if b then 1 else 0)) { s with toks := s.toks + 1 }) : wpAny (model prog w) A (pyHash (.bool b)) Q E s := by
  refine hash_slot (T := "bool") (f := Builtin.«int.__hash__») rfl (.inl rfl) F.slot_bool_hash entry_int_hash (args_int_hash _) (fun x t h => by cases h) ?_
  have e : reduceHash (rawHash (if b then 1 else 0)) = hashInt (if b then 1 else 0) := by cases b <;> decide +kernel
  have run : wpAny (model prog w) A.in1 (do ret (← mkInt (rawHash (if b then 1 else 0)))) (fun r s' => ∃ i t, r = .done (.ret (.int i t)) ∧ Q (reduceHash i) s') E s := by
    refine wpAny_mono (wpAny_ret_mkInt (Q := fun v s' => ∃ i t, v = .int i t ∧ Q (reduceHash i) s') ⟨_, _, rfl, by rw [e]; exact q⟩) (fun r s' h => ?_) fun _ _ x => x
    obtain ⟨v, rfl, i, t, rfl, h⟩ := h
    exact ⟨i, t, rfl, h⟩
  cases b with
  | true => exact run
  | false => exact run
mutual
theorem hash_data : ∀ (d : PyData) {A : Around} {E : Value → Shared → Prop} {s : Shared} {v : Value} {as : List Addr} {Q : Int → Shared → Prop}, Reads s.heap v d as → hasK d = true → A.units + d.depth < cLine → Q (hshK w d) { s with toks := s.toks + drwK d } → wpAny (model prog w) A (pyHash v) Q E s
  | .int i, A, E, s, v, as, Q, r, _, _, q => by cases r; exact wpAny_pyHash_int (by simpa only [hshK, drwK] using q)
  | .str x, A, E, s, v, as, Q, r, _, _, q => by cases r; exact wpAny_pyHash_str (by simpa only [hshK, drwK] using q)
  | .bool b, A, E, s, v, as, Q, r, _, _, q => by cases r; exact hash_bool (by simpa only [hshK, drwK] using q)
  | .tuple xs, A, E, s, v, as, Q, r, hk, hu, q => by
    cases r with
    | tuple h1 h2 h3 h4 =>
      rename_i a o vs n
      simp only [hasK] at hk
      simp only [PyData.depth] at hu
      refine hash_slot (T := "tuple") (f := Builtin.«tuple.__hash__») ⟨o, h1, h2⟩ (.inr (by omega)) F.slot_tuple_hash F.entry_tuple_hash (F.args_tuple_hash_1 _) (fun x t h => by cases h) ?_
      show wpAny _ _ (do
        let mut hs : Array Int := #[]
        for x in ← Builtin.Tuple.tupleItemsOf (.ref a) do hs := hs.push (← pyHash x)
        retInt (Builtin.Tuple.tupleHashOf hs.toList)) _ E s
      refine wpAny_bind (wpAny_tupleItemsOf h1 h3 (wpAny_bind ?_))
      rw [← Array.forIn_toList]
      refine hash_all xs #[] h4 hk (by show A.units + 1 + PyData.depthAll xs < cLine; omega) ?_
      simp only [hshK, drwK] at q
      refine wpAny_mono (wpAny_ret_mkInt (Q := fun v s' => ∃ i t, v = .int i t ∧ Q (reduceHash i) s') ⟨_, _, rfl, ?_⟩) (fun r s' h => ?_) fun _ _ x => x
      · simpa [Nat.add_assoc] using q
      · obtain ⟨v, rfl, i, t, rfl, h⟩ := h
        exact ⟨i, t, rfl, h⟩
  | .none, _, _, _, _, _, _, _, hk, _, _ => by simp [hasK] at hk
  | .list _, _, _, _, _, _, _, _, hk, _, _ => by simp [hasK] at hk
  | .dict _, _, _, _, _, _, _, _, hk, _, _ => by simp [hasK] at hk
theorem hash_all : ∀ (xs : List PyData) (acc : Array Int) {A : Around} {E : Value → Shared → Prop} {s : Shared} {vs : List Value} {as : List Addr} {Q : Array Int → Shared → Prop}, ReadsAll s.heap vs xs as → hasKs xs = true → A.units + PyData.depthAll xs < cLine →
    Q (acc ++ (hshKs w xs).toArray) { s with toks := s.toks + drwKs xs } → wpAny (model prog w) A (forIn vs acc fun x r => do let h ← pyHash x; pure (ForInStep.yield (r.push h))) Q E s
  | [], acc, A, E, s, vs, as, Q, r, _, _, q => by
    cases r
    rw [List.forIn_nil]
    exact wpAny_pure (by simpa [hshKs, drwKs] using q)
  | d :: xs, acc, A, E, s, vs, as, Q, r, hk, hu, q => by
    cases r with
    | cons r1 r2 =>
      simp only [hasKs, Bool.and_eq_true] at hk
      simp only [PyData.depthAll] at hu
      rw [List.forIn_cons]
      refine wpAny_bind (wpAny_bind (hash_data d r1 hk.1 (by omega) (wpAny_pure ?_)))
      refine hash_all xs _ r2 hk.2 (by omega) ?_
      simpa [hshKs, drwKs, Nat.add_assoc] using q
end
end
end DL

set_option Elab.async false
set_option linter.all false
set_option maxRecDepth 100000
set_option maxHeartbeats 4000000
set_option autoImplicit false
namespace DL
open PySem PySem.Spec PyProof.Rows L2
section
variable {prog : Program} {w : World}
/-! ### such data compare quietly -/
mutual
theorem quiet_data : ∀ (d : PyData) (n : Nat) {A : Around} {E : Value → Shared → Prop} {s : Shared} {v : Value} {as : List Addr} {Q : Bool → Shared → Prop}, Reads s.heap v d as → hasK d = true → d.depth ≤ n → Q true s → wpAny (model prog w) A (eqIsQuiet n v) Q E s
  | .int i, n, A, E, s, v, as, Q, r, _, _, q => by cases r; rw [eqIsQuiet_byValue n rfl]; exact wpAny_pure q
  | .str x, n, A, E, s, v, as, Q, r, _, _, q => by cases r; rw [eqIsQuiet_byValue n rfl]; exact wpAny_pure q
  | .bool b, n, A, E, s, v, as, Q, r, _, _, q => by cases r; rw [eqIsQuiet_byValue n rfl]; exact wpAny_pure q
  | .tuple xs, 0, A, E, s, v, as, Q, r, hk, hu, q => by simp [PyData.depth] at hu
  | .tuple xs, n + 1, A, E, s, v, as, Q, r, hk, hu, q => by
    cases r with
    | tuple h1 h2 h3 h4 =>
      rename_i a o vs m
      simp only [hasK] at hk
      simp only [PyData.depth] at hu
      have ty : s.TypeIs (.ref a) "tuple" := ⟨o, h1, h2⟩
      unfold eqIsQuiet
      refine wpAny_bind (wpAny_specialOf ty F.slot_tuple_eq.lookup ?_)
      show wpAny _ _ (do
        if !(← isInstance (.ref a) (.type "tuple")) then return false
        for y in (← seqItems? (.ref a)).getD #[] do
          if !(← eqIsQuiet n y) then return false
        return true) Q E s
      refine wpAny_bind (wpAny_isInstance ty isSubtype_tuple_tuple ?_)
      simp only [Bool.not_true, Bool.false_eq_true, if_false]
      refine wpAny_bind (wpAny_seqItems h1 h3 (wpAny_bind ?_))
      show wpAny _ _ (forIn vs _ _) _ _ s
      rw [← Array.forIn_toList]
      refine quiet_all xs n h4 hk (by omega) ?_
      exact wpAny_pure q
  | .none, _, _, _, _, _, _, _, _, hk, _, _ => by simp [hasK] at hk
  | .list _, _, _, _, _, _, _, _, _, hk, _, _ => by simp [hasK] at hk
  | .dict _, _, _, _, _, _, _, _, _, hk, _, _ => by simp [hasK] at hk
theorem quiet_all : ∀ (xs : List PyData) (n : Nat) {A : Around} {E : Value → Shared → Prop} {s : Shared} {vs : List Value} {as : List Addr} {Q : Option Bool × Unit → Shared → Prop}, ReadsAll s.heap vs xs as → hasKs xs = true → PyData.depthAll xs ≤ n → Q (none, ()) s →
    wpAny (model prog w) A (forIn vs ((none, ()) : Option Bool × Unit) fun y r => do
      if (!(← eqIsQuiet n y)) = true then pure (ForInStep.done (some false, ())) else pure (ForInStep.yield (none, ()))) Q E s
  | [], n, A, E, s, vs, as, Q, r, _, _, q => by
    cases r
    rw [List.forIn_nil]
    exact wpAny_pure q
  | d :: xs, n, A, E, s, vs, as, Q, r, hk, hu, q => by
    cases r with
    | cons r1 r2 =>
      simp only [hasKs, Bool.and_eq_true] at hk
      simp only [PyData.depthAll] at hu
      rw [List.forIn_cons]
      refine wpAny_bind (wpAny_bind (quiet_data d n r1 hk.1 (by omega) ?_))
      simp only [Bool.not_true, Bool.false_eq_true, if_false]
      exact wpAny_pure (quiet_all xs n r2 hk.2 (by omega) q)
end
end
end DL

set_option Elab.async false
set_option linter.all false
set_option maxRecDepth 100000
set_option maxHeartbeats 4000000
set_option autoImplicit false
namespace DL
open PySem PySem.Spec PyProof.Rows L2
/-! ### what is the same, among such data -/
mutual
theorem eqv_sym : ∀ a b : PyData, PyData.eqv a b = PyData.eqv b a
  | .none, .none => rfl
  | .none, .bool b => rfl
  | .none, .int b => rfl
  | .none, .str b => rfl
  | .none, .list b => rfl
  | .none, .tuple b => rfl
  | .none, .dict b => rfl
  | .bool a, .none => rfl
  | .bool a, .bool b => by simp only [PyData.eqv]; exact Bool.beq_comm
  | .bool a, .int b => by simp only [PyData.eqv]; exact Bool.beq_comm
  | .bool a, .str b => rfl
  | .bool a, .list b => rfl
  | .bool a, .tuple b => rfl
  | .bool a, .dict b => rfl
  | .int a, .none => rfl
  | .int a, .bool b => by simp only [PyData.eqv]; exact Bool.beq_comm
  | .int a, .int b => by simp only [PyData.eqv]; exact Bool.beq_comm
  | .int a, .str b => rfl
  | .int a, .list b => rfl
  | .int a, .tuple b => rfl
  | .int a, .dict b => rfl
  | .str a, .none => rfl
  | .str a, .bool b => rfl
  | .str a, .int b => rfl
  | .str a, .str b => by simp only [PyData.eqv]; exact Bool.beq_comm
  | .str a, .list b => rfl
  | .str a, .tuple b => rfl
  | .str a, .dict b => rfl
  | .list a, .none => rfl
  | .list a, .bool b => rfl
  | .list a, .int b => rfl
  | .list a, .str b => rfl
  | .list a, .list b => by simp only [PyData.eqv]; exact eqvAll_sym a b
  | .list a, .tuple b => rfl
  | .list a, .dict b => rfl
  | .tuple a, .none => rfl
  | .tuple a, .bool b => rfl
  | .tuple a, .int b => rfl
  | .tuple a, .str b => rfl
  | .tuple a, .list b => rfl
  | .tuple a, .tuple b => by simp only [PyData.eqv]; exact eqvAll_sym a b
  | .tuple a, .dict b => rfl
  | .dict a, .none => rfl
  | .dict a, .bool b => rfl
  | .dict a, .int b => rfl
  | .dict a, .str b => rfl
  | .dict a, .list b => rfl
  | .dict a, .tuple b => rfl
  | .dict a, .dict b => rfl
theorem eqvAll_sym : ∀ xs ys : List PyData, PyData.eqvAll xs ys = PyData.eqvAll ys xs
  | [], [] => rfl
  | [], _ :: _ => rfl
  | _ :: _, [] => rfl
  | x :: xs, y :: ys => by simp only [PyData.eqvAll, eqv_sym x y, eqvAll_sym xs ys]
end
mutual
theorem eqv_trs : ∀ a b c : PyData, hasK a = true → hasK b = true → hasK c = true → PyData.eqv a b = true → PyData.eqv b c = true → PyData.eqv a c = true
  | .tuple xs, .tuple ys, .tuple zs, h1, h2, h3, e1, e2 => by
    simp only [PyData.eqv, hasK] at *
    exact eqvAll_trs xs ys zs h1 h2 h3 e1 e2
  | .str x, .str y, .str z, _, _, _, e1, e2 => by
    simp only [PyData.eqv, beq_iff_eq] at *
    rw [e1, e2]
  | .int i, b, c, _, hb, hc, e1, e2 => by
    cases b <;> cases c <;> simp only [PyData.eqv, hasK, Bool.false_eq_true, beq_iff_eq] at * <;> simp_all
  | .bool i, b, c, _, hb, hc, e1, e2 => by
    cases b <;> cases c <;> simp only [PyData.eqv, hasK, Bool.false_eq_true, beq_iff_eq] at * <;> simp_all
    rename_i b c
    cases i <;> cases c <;> simp_all
  | .tuple _, .int _, _, _, _, _, e1, _ => by simp [PyData.eqv] at e1
  | .tuple _, .str _, _, _, _, _, e1, _ => by simp [PyData.eqv] at e1
  | .tuple _, .bool _, _, _, _, _, e1, _ => by simp [PyData.eqv] at e1
  | .tuple _, .tuple _, .int _, _, _, _, _, e2 => by simp [PyData.eqv] at e2
  | .tuple _, .tuple _, .str _, _, _, _, _, e2 => by simp [PyData.eqv] at e2
  | .tuple _, .tuple _, .bool _, _, _, _, _, e2 => by simp [PyData.eqv] at e2
  | .str _, .int _, _, _, _, _, e1, _ => by simp [PyData.eqv] at e1
  | .str _, .tuple _, _, _, _, _, e1, _ => by simp [PyData.eqv] at e1
  | .str _, .bool _, _, _, _, _, e1, _ => by simp [PyData.eqv] at e1
  | .str _, .str _, .int _, _, _, _, _, e2 => by simp [PyData.eqv] at e2
  | .str _, .str _, .tuple _, _, _, _, _, e2 => by simp [PyData.eqv] at e2
  | .str _, .str _, .bool _, _, _, _, _, e2 => by simp [PyData.eqv] at e2
  | .none, _, _, h, _, _, _, _ => by simp [hasK] at h
  | .list _, _, _, h, _, _, _, _ => by simp [hasK] at h
  | .dict _, _, _, h, _, _, _, _ => by simp [hasK] at h
  | .tuple _, .none, _, _, h, _, _, _ => by simp [hasK] at h
  | .tuple _, .list _, _, _, h, _, _, _ => by simp [hasK] at h
  | .tuple _, .dict _, _, _, h, _, _, _ => by simp [hasK] at h
  | .str _, .none, _, _, h, _, _, _ => by simp [hasK] at h
  | .str _, .list _, _, _, h, _, _, _ => by simp [hasK] at h
  | .str _, .dict _, _, _, h, _, _, _ => by simp [hasK] at h
  | .tuple _, .tuple _, .none, _, _, h, _, _ => by simp [hasK] at h
  | .tuple _, .tuple _, .list _, _, _, h, _, _ => by simp [hasK] at h
  | .tuple _, .tuple _, .dict _, _, _, h, _, _ => by simp [hasK] at h
  | .str _, .str _, .none, _, _, h, _, _ => by simp [hasK] at h
  | .str _, .str _, .list _, _, _, h, _, _ => by simp [hasK] at h
  | .str _, .str _, .dict _, _, _, h, _, _ => by simp [hasK] at h
theorem eqvAll_trs : ∀ xs ys zs : List PyData, hasKs xs = true → hasKs ys = true → hasKs zs = true → PyData.eqvAll xs ys = true → PyData.eqvAll ys zs = true → PyData.eqvAll xs zs = true
  | [], [], [], _, _, _, _, _ => rfl
  | x :: xs, y :: ys, z :: zs, h1, h2, h3, e1, e2 => by
    simp only [PyData.eqvAll, hasKs, Bool.and_eq_true] at *
    exact ⟨eqv_trs x y z h1.1 h2.1 h3.1 e1.1 e2.1, eqvAll_trs xs ys zs h1.2 h2.2 h3.2 e1.2 e2.2⟩
  | [], _ :: _, _, _, _, _, e1, _ => by simp [PyData.eqvAll] at e1
  | _ :: _, [], _, _, _, _, e1, _ => by simp [PyData.eqvAll] at e1
  | [], [], _ :: _, _, _, _, _, e2 => by simp [PyData.eqvAll] at e2
  | _ :: _, _ :: _, [], _, _, _, _, e2 => by simp [PyData.eqvAll] at e2
end
mutual
theorem eqv_hsh (w : World) : ∀ a b : PyData, hasK a = true → hasK b = true → PyData.eqv a b = true → hshK w a = hshK w b
  | .tuple xs, .tuple ys, h1, h2, e => by
    simp only [PyData.eqv, hasK] at *
    simp only [hshK, eqvAll_hsh w xs ys h1 h2 e]
  | .tuple xs, .int _, _, _, e => by simp [PyData.eqv] at e
  | .tuple xs, .str _, _, _, e => by simp [PyData.eqv] at e
  | .tuple xs, .bool _, _, _, e => by simp [PyData.eqv] at e
  | .tuple xs, .none, _, h, _ => by simp [hasK] at h
  | .tuple xs, .list _, _, h, _ => by simp [hasK] at h
  | .tuple xs, .dict _, _, h, _ => by simp [hasK] at h
  | .int i, b, _, hb, e => by cases b <;> simp only [PyData.eqv, hasK, hshK, Bool.false_eq_true, beq_iff_eq] at * <;> rw [e]
  | .bool i, b, _, hb, e => by cases b <;> simp only [PyData.eqv, hasK, hshK, Bool.false_eq_true, beq_iff_eq] at * <;> rw [e]
  | .str i, b, _, hb, e => by cases b <;> simp only [PyData.eqv, hasK, hshK, Bool.false_eq_true, beq_iff_eq] at * <;> rw [e]
  | .none, _, h, _, _ => by simp [hasK] at h
  | .list _, _, h, _, _ => by simp [hasK] at h
  | .dict _, _, h, _, _ => by simp [hasK] at h
theorem eqvAll_hsh (w : World) : ∀ xs ys : List PyData, hasKs xs = true → hasKs ys = true → PyData.eqvAll xs ys = true → hshKs w xs = hshKs w ys
  | [], [], _, _, _ => rfl
  | x :: xs, y :: ys, h1, h2, e => by
    simp only [PyData.eqvAll, hasKs, Bool.and_eq_true] at *
    simp only [hshKs, eqv_hsh w x y h1.1 h2.1 e.1, eqvAll_hsh w xs ys h1.2 h2.2 e.2]
  | [], _ :: _, _, _, e => by simp [PyData.eqvAll] at e
  | _ :: _, [], _, _, e => by simp [PyData.eqvAll] at e
end
mutual
theorem hasK_plain : ∀ a : PyData, hasK a = true → a.plain = true
  | .tuple xs, h => by simp only [hasK] at h; simp only [PyData.plain]; exact hasKs_plain xs h
  | .int _, _ => rfl
  | .str _, _ => rfl
  | .bool _, _ => rfl
  | .none, h => by simp [hasK] at h
  | .list _, h => by simp [hasK] at h
  | .dict _, h => by simp [hasK] at h
theorem hasKs_plain : ∀ xs : List PyData, hasKs xs = true → PyData.plainAll xs = true
  | [], _ => rfl
  | x :: xs, h => by simp only [hasKs, Bool.and_eq_true] at h; simp only [PyData.plainAll, hasK_plain x h.1, hasKs_plain xs h.2, Bool.and_self]
end
end DL

set_option Elab.async false
set_option linter.all false
set_option maxRecDepth 100000
set_option maxHeartbeats 4000000
set_option autoImplicit false
namespace DL
open PySem PySem.Spec PyProof.Rows L2
/-! ### dicts whose keys are such data -/
structure Ents (w : World) (h : Heap) (ks : List PyData) (es : Array DictEntry) : Prop where
  len : es.size = ks.length
  at_ : ∀ (i : Nat) (e : DictEntry) (k : PyData), es[i]? = some e → ks[i]? = some k → e.hash = hshK w k ∧ ∃ as, Reads h e.key k as
  has : ∀ k ∈ ks, hasK k = true ∧ k.depth ≤ 8
  uniq : ∀ (i j : Nat) (a b : PyData), i < j → ks[i]? = some a → ks[j]? = some b → PyData.eqv a b = false
section
variable {prog : Program} {w : World} {A : Around} {E : Value → Shared → Prop} {s : Shared} {d : Addr} {o : Obj} {es : Array DictEntry} {ep : Nat} {ks : List PyData} {key : Value} {k : PyData} {as : List Addr}
theorem Ents.get (X : Ents w s.heap ks es) {i : Nat} (hi : i < es.size) : ∃ e a, es[i]? = some e ∧ ks[i]? = some a ∧ e.hash = hshK w a ∧ (∃ as, Reads s.heap e.key a as) ∧ hasK a = true ∧ a.depth ≤ 8 := by
  have h2 : i < ks.length := by rw [← X.len]; exact hi
  have h3 := X.at_ i es[i] ks[i] (Array.getElem?_eq_getElem hi) (List.getElem?_eq_getElem h2)
  have h4 := X.has ks[i] (List.getElem_mem h2)
  exact ⟨_, _, Array.getElem?_eq_getElem hi, List.getElem?_eq_getElem h2, h3.1, h3.2, h4⟩
theorem Ents.same (X : Ents w s.heap ks es) {i j : Nat} {a b : PyData} (hi : ks[i]? = some a) (hj : ks[j]? = some b) (hk : hasK k = true) (h1 : PyData.eqv a k = true) (h2 : PyData.eqv b k = true) : i = j := by
  have ka := (X.has a (List.mem_of_getElem? hi)).1
  have kb := (X.has b (List.mem_of_getElem? hj)).1
  have e : PyData.eqv a b = true := eqv_trs a k b ka hk kb h1 (by rw [eqv_sym]; exact h2)
  rcases Nat.lt_trichotomy i j with h | h | h
  · rw [X.uniq i j a b h hi hj] at e; cases e
  · exact h
  · rw [eqv_sym, X.uniq j i b a h hj hi] at e; cases e
theorem calm_all {M : Model} {σ : Type} {x0 : σ} {f : Value → σ → Sem (ForInStep σ)} {Q : σ → Shared → Prop} : ∀ (vs : List Value), (∀ v ∈ vs, ∀ (R : ForInStep σ → Shared → Prop), R (.yield x0) s → wpAny M A (f v x0) R E s) → Q x0 s → wpAny M A (forIn vs x0 f) Q E s
  | [], _, q => by rw [List.forIn_nil]; exact wpAny_pure q
  | v :: vs, h, q => by
    rw [List.forIn_cons]
    exact wpAny_bind (h v (by simp) _ (calm_all vs (fun u hu => h u (List.mem_cons_of_mem _ hu)) q))
end
end DL

set_option Elab.async false
set_option linter.all false
set_option maxRecDepth 100000
set_option maxHeartbeats 4000000
set_option autoImplicit false
namespace DL
open PySem PySem.Spec PyProof.Rows L2
/-! ### parts of such data -/
theorem readsAll_mem {h : Heap} : ∀ {vs : List Value} {xs : List PyData} {as : List Addr} {v : Value}, ReadsAll h vs xs as → v ∈ vs → ∃ x ∈ xs, ∃ as', Reads h v x as'
  | _, _, _, v, .nil, hv => by cases hv
  | _, _, _, v, .cons r1 r2, hv => by
    rcases List.mem_cons.mp hv with rfl | hv
    · exact ⟨_, List.mem_cons_self, _, r1⟩
    · obtain ⟨x, hx, r⟩ := readsAll_mem r2 hv
      exact ⟨x, List.mem_cons_of_mem _ hx, r⟩
theorem hasKs_mem : ∀ {xs : List PyData} {x : PyData}, hasKs xs = true → x ∈ xs → hasK x = true
  | y :: ys, x, h, hx => by
    simp only [hasKs, Bool.and_eq_true] at h
    rcases List.mem_cons.mp hx with rfl | hx
    · exact h.1
    · exact hasKs_mem h.2 hx
theorem depth_mem : ∀ {xs : List PyData} {x : PyData} {n : Nat}, PyData.depthAll xs ≤ n → x ∈ xs → x.depth ≤ n
  | y :: ys, x, n, h, hx => by
    simp only [PyData.depthAll] at h
    rcases List.mem_cons.mp hx with rfl | hx
    · omega
    · exact depth_mem (by omega) hx
section
variable {prog : Program} {w : World}
/-- going through values, each of which may end it -/
theorem loop_two {M : Model} {A : Around} {E : Value → Shared → Prop} {s : Shared} {σ : Type} {x0 x1 : σ} {f : Value → σ → Sem (ForInStep σ)} {Q : σ → Shared → Prop} (q0 : Q x0 s) (q1 : Q x1 s) :
    ∀ (vs : List Value), (∀ v ∈ vs, ∀ (R : ForInStep σ → Shared → Prop), R (.yield x0) s → R (.done x1) s → wpAny M A (f v x0) R E s) → wpAny M A (forIn vs x0 f) Q E s
  | [], _ => by rw [List.forIn_nil]; exact wpAny_pure q0
  | v :: vs, h => by
    rw [List.forIn_cons]
    exact wpAny_bind (h v List.mem_cons_self _ (loop_two q0 q1 vs fun u hu => h u (List.mem_cons_of_mem _ hu)) (wpAny_pure q1))
/-- such data are of no class statement -/
theorem noclass_data : ∀ (n : Nat) (d : PyData) {A : Around} {E : Value → Shared → Prop} {s : Shared} {v : Value} {as : List Addr} {Q : Bool → Shared → Prop}, Reads s.heap v d as → hasK d = true → d.depth ≤ n → Q false s → wpAny (model prog w) A (ofAClassStatement n v) Q E s := by
  intro n
  induction n with
  | zero =>
    intro d A E s v as Q r hk hn q
    cases r with
    | tuple h1 h2 h3 h4 => simp [PyData.depth] at hn
    | list h1 h2 h3 h4 => simp [hasK] at hk
    | dict h1 => simp [hasK] at hk
    | _ => exact wpAny_pure q
  | succ n ih =>
    intro d A E s v as Q r hk hn q
    cases r with
    | tuple h1 h2 h3 h4 =>
      rename_i a o vs xs m
      simp only [hasK] at hk
      simp only [PyData.depth] at hn
      unfold ofAClassStatement
      refine wpAny_bind (wpAny_typeOf (T := "tuple") ⟨o, h1, h2⟩ ?_)
      have e : (("tuple" : String) == "tuple") = true := by decide
      simp only [e, if_true]
      refine wpAny_bind (wpAny_pure ?_)
      simp only [Bool.not_true, Bool.false_eq_true, if_false]
      refine wpAny_bind (wpAny_seqItems h1 h3 ?_)
      dsimp only
      refine wpAny_bind ?_
      rw [← Array.forIn_toList]
      refine calm_all vs.toList (fun v hv R hR => ?_) (wpAny_pure q)
      obtain ⟨x, hx, as', r⟩ := readsAll_mem h4 hv
      refine wpAny_bind (ih x r (hasKs_mem hk hx) (depth_mem (by omega) hx) ?_)
      exact wpAny_pure hR
    | list h1 h2 h3 h4 => simp [hasK] at hk
    | dict h1 => simp [hasK] at hk
    | _ => exact wpAny_pure q
/-- whether their hashes go by values is told quietly -/
theorem byval_data : ∀ (n : Nat) (d : PyData) {A : Around} {E : Value → Shared → Prop} {s : Shared} {v : Value} {as : List Addr} {Q : Bool → Shared → Prop}, Reads s.heap v d as → hasK d = true → (∀ b, Q b s) → wpAny (model prog w) A (hashByValue n v) Q E s := by
  intro n
  induction n with
  | zero =>
    intro d A E s v as Q r hk q
    cases r with
    | list h1 h2 h3 h4 => simp [hasK] at hk
    | dict h1 => simp [hasK] at hk
    | _ => exact wpAny_pure (q _)
  | succ n ih =>
    intro d A E s v as Q r hk q
    cases r with
    | tuple h1 h2 h3 h4 =>
      rename_i a o vs xs m
      simp only [hasK] at hk
      unfold hashByValue
      refine wpAny_bind (wpAny_specialOf (T := "tuple") ⟨o, h1, h2⟩ F.slot_tuple_hash.lookup ?_)
      show wpAny _ _ (seqItems? (.ref a) >>= _) _ _ s
      refine wpAny_bind (wpAny_seqItems h1 h3 (wpAny_bind ?_))
      show wpAny _ _ (forIn vs _ _) _ _ s
      rw [← Array.forIn_toList]
      refine loop_two (x1 := (some false, ())) (wpAny_pure (q _)) (wpAny_pure (q _)) vs.toList fun v hv R h0 h1 => ?_
      obtain ⟨x, hx, as', r⟩ := readsAll_mem h4 hv
      refine wpAny_bind (ih x r (hasKs_mem hk hx) fun b => ?_)
      cases b
      · exact wpAny_pure h1
      · exact wpAny_pure h0
    | list h1 h2 h3 h4 => simp [hasK] at hk
    | dict h1 => simp [hasK] at hk
    | _ => exact wpAny_pure (q _)
/-- a key as it stands in a heap -/
structure El (h : Heap) (p : Addr × PyData) : Prop where
  rd : ∃ as, Reads h (.ref p.1) p.2 as
  has : hasK p.2 = true
  dp : p.2.depth ≤ 8
section
variable {A : Around} {E : Value → Shared → Prop} {s : Shared}
theorem El.eq {p q : Addr × PyData} (hp : El s.heap p) (hq : El s.heap q) (hu : A.units + 10 < cLine) {Q : Bool → Shared → Prop} (h : Q (PyData.eqv p.2 q.2) s) : wpAny (model prog w) A (eqBool (.ref p.1) (.ref q.1)) Q E s := by
  obtain ⟨as, r1⟩ := hp.rd
  obtain ⟨bs, r2⟩ := hq.rd
  exact SeqAt.eqAt_plain p.2 q.2 A s _ _ _ _ r1 r2 (hasK_plain _ hp.has) (hasK_plain _ hq.has) (by have := Nat.min_le_left p.2.depth q.2.depth; have := hp.dp; omega) _ _ _ _ h
theorem El.seen {p : Addr × PyData} (hp : El s.heap p) {ys : List Value} (hy : ∀ y ∈ ys, ∃ q, y = Value.ref q.1 ∧ El s.heap q) {Q : Bool → Shared → Prop} (h : Q false s) : wpAny (model prog w) A (searchCouldBeSeen (.ref p.1) ys) Q E s := by
  obtain ⟨as, r1⟩ := hp.rd
  unfold searchCouldBeSeen
  refine wpAny_bind (calm_all ys (fun y hv R hR => ?_) (wpAny_pure h))
  obtain ⟨q, rfl, hq⟩ := hy y hv
  obtain ⟨bs, r2⟩ := hq.rd
  dsimp only
  split
  · exact wpAny_pure hR
  · refine wpAny_bind (quiet_data p.2 8 r1 hp.has hp.dp ?_)
    refine wpAny_bind (quiet_data q.2 8 r2 hq.has hq.dp ?_)
    refine wpAny_bind (noclass_data 8 p.2 r1 hp.has hp.dp ?_)
    refine wpAny_bind (noclass_data 8 q.2 r2 hq.has hq.dp ?_)
    exact wpAny_pure hR
end
end
/-! ### the table -/
/-- the c-th stand on a hash's way -/
abbrev stand (t : SetTable) (h : Int) (c : Nat) : SetTable.Probe := nth t.mask (t.probeStart h) c
theorem stand_bare (t : SetTable) (h : Int) : ∀ c, (stand t h c).dummy = none
  | 0 => rfl
  | c + 1 => by
    have ih := stand_bare t h c
    show (nth t.mask (t.probeStart h) (c + 1)).dummy = none
    rw [nth_succ]
    unfold adv
    split <;> exact ih
/-- what a look from the c-th stand on tells -/
theorem look_from {t : SetTable} {hs : List Int} (T : TabOk t hs) {at_ : Nat → Int} (hat : ∀ i, i < hs.length → hs[i]? = some (at_ i)) {h : Int} {c K : Nat} (hc : c ≤ K) (hf : K < 10 * SetTable.turns t.mask) (hK : way t.mask h K ∉ t.place.toList)
    (hb : ∀ k, k < K → way t.mask h k ∈ t.place.toList) :
    (∃ n i : Nat, c ≤ n ∧ n < K ∧ t.place.toList[i]? = some (way t.mask h n) ∧ hs[i]? = some h ∧ (∀ m j : Nat, c ≤ m → m < n → t.place.toList[j]? = some (way t.mask h m) → hs[j]? ≠ some h) ∧ t.probe at_ h (stand t h c) = some (.candidate (way t.mask h n) i (stand t h (n + 1)))) ∨
    ((∀ m j : Nat, c ≤ m → m < K → t.place.toList[j]? = some (way t.mask h m) → hs[j]? ≠ some h) ∧ t.probe at_ h (stand t h c) = some (.empty (way t.mask h K) none)) := by
  have sh : ∀ q, nth t.mask (stand t h c) q = stand t h (c + q) := fun q => (nth_add t.mask c _ q).symm
  have wy : ∀ q, (stand t h q).j = way t.mask h q := fun q => rfl
  have inh : ∀ {i j : Nat}, t.place.toList[i]? = some j → hs[i]? = some (at_ i) := fun {i j} e => hat i (by
    have h1 := (List.getElem?_eq_some_iff.mp e).1
    rw [Array.length_toList, T.sz] at h1
    exact h1)
  rcases go_spec t T.ris T.dm at_ h (10 * SetTable.turns t.mask) (K - c) (stand t h c) (stand_bare t h c) (by omega) (fun q hq => by rw [sh, wy]; exact hb _ (by omega)) (by rw [sh, wy, show c + (K - c) = K by omega]; exact hK) with ⟨q, i, h1, h2, h3, h4, h5⟩ | ⟨h1, h2⟩
  · rw [sh, wy] at h2
    refine .inl ⟨c + q, i, by omega, by omega, h2, by rw [inh h2, h3], fun m j a b e z => ?_, ?_⟩
    · refine h4 (m - c) j (by omega) (by rw [sh, wy, show c + (m - c) = m by omega]; exact e) ?_
      rw [inh e] at z
      exact Option.some.inj z
    · rw [sh, sh, wy] at h5
      exact h5
  · refine .inr ⟨fun m j a b e z => ?_, ?_⟩
    · refine h1 (m - c) j (by omega) (by rw [sh, wy, show c + (m - c) = m by omega]; exact e) ?_
      rw [inh e] at z
      exact Option.some.inj z
    · rw [sh, wy, show c + (K - c) = K by omega] at h2
      exact h2
end DL

set_option Elab.async false
set_option linter.all false
set_option maxRecDepth 100000
set_option maxHeartbeats 4000000
set_option autoImplicit false
namespace DL
open PySem PySem.Spec PyProof.Rows L2
/-! ### sets of such data -/
abbrev El.row (w : World) (p : Addr × PyData) : Int × Value := (hshK w p.2, .ref p.1)
structure SetN (w : World) (h : Heap) (a : Addr) (L : List (Addr × PyData)) (es : Array (Int × Value)) (ep : Nat) (t : SetTable) : Prop where
  ob : ∃ o, h.get? a = some o ∧ o.ExactSet ∧ o.data = .set es ep t
  rows : es.toList = L.map (El.row w)
  tab : TabOk t (L.map fun p => hshK w p.2)
  els : ∀ p ∈ L, El h p
  room : L.length * 5 < t.mask * 3
  few : L.length < 64
abbrev inK (L : List (Addr × PyData)) (k : PyData) : Bool := L.any fun p => PyData.eqv p.2 k
section
variable {prog : Program} {w : World} {A : Around} {E : Value → Shared → Prop} {s : Shared} {a : Addr} {L : List (Addr × PyData)} {es : Array (Int × Value)} {ep : Nat} {t : SetTable} {x : Addr × PyData}
theorem SetN.size (R : SetN w s.heap a L es ep t) : es.size = L.length := by
  rw [← Array.length_toList, R.rows, List.length_map]
theorem fits_few (h1 : t.dummies = #[]) (h2 : t.place.size = es.size) (h3 : es.size ≤ t.mask) : t.fits es.size = true := by
  unfold SetTable.fits SetTable.fill
  rw [h1, h2]
  simpa using h3
theorem SetN.fits (R : SetN w s.heap a L es ep t) : t.fits es.size = true := by
  have h1 := R.tab.sz
  rw [List.length_map, ← R.size] at h1
  have := R.room
  have := R.size
  exact fits_few R.tab.dm h1 (by omega)
theorem SetN.row (R : SetN w s.heap a L es ep t) (i : Nat) : es[i]? = L[i]?.map (El.row w) := by
  rw [← Array.getElem?_toList, R.rows, List.getElem?_map]
/-- the search, from a stand on behind which all that are like it are -/
theorem SetN.seek (R : SetN w s.heap a L es ep t) (hx : El s.heap x) (hu : A.units + 10 < cLine) {K : Nat} (hf : K < 10 * SetTable.turns t.mask) (hK : way t.mask (hshK w x.2) K ∉ t.place.toList) (hb : ∀ k, k < K → way t.mask (hshK w x.2) k ∈ t.place.toList)
    {Q : SetFound → Shared → Prop} (yes : inK L x.2 = true → Q (.there none) s) (no : inK L x.2 = false → Q (.free (way t.mask (hshK w x.2) K) false) s) :
    ∀ (n c : Nat) (from_ : Option SetTable.Probe), from_.getD (t.probeStart (hshK w x.2)) = stand t (hshK w x.2) c → c ≤ K → K < c + n →
      (∀ (i m : Nat) (p : Addr × PyData), L[i]? = some p → PyData.eqv p.2 x.2 = true → t.place.toList[i]? = some (way t.mask (hshK w x.2) m) → m < K → ∃ m', way t.mask (hshK w x.2) m' = way t.mask (hshK w x.2) m ∧ c ≤ m' ∧ m' < K) →
      wpAny (model prog w) A (setSearchFrom a (.ref x.1) (hshK w x.2) true n from_) Q E s := by
  obtain ⟨o, ho, hex, hd⟩ := R.ob
  have gw : t.gaveWay = false := by unfold SetTable.gaveWay; rw [mask_odd R.tab.mok] <;> rfl
  have hat : ∀ i, i < (L.map fun p => hshK w p.2).length → (L.map fun p => hshK w p.2)[i]? = some ((fun i => (es[i]?.map (·.1)).getD 0) i) := fun i hi => by
    rw [List.length_map] at hi
    simp only [List.getElem?_map, R.row i, List.getElem?_eq_getElem hi, Option.map_some, Option.getD_some]
  have lists : ∀ {i j : Nat}, t.place.toList[i]? = some j → i < L.length := fun {i j} e => by
    have := (List.getElem?_eq_some_iff.mp e).1
    rw [Array.length_toList, R.tab.sz, List.length_map] at this
    exact this
  intro n
  induction n with
  | zero => intro c _ _ h1 h2 _; omega
  | succ n ih =>
    intro c from_ hfr hc hn hre
    rw [setSearchFrom_succ]
    refine wpAny_bind (wpAny_setState_of ho hd R.fits ?_)
    simp only [gw, Bool.false_eq_true, if_false, hfr]
    rcases look_from R.tab hat hc hf hK hb with ⟨m, i, h1, h2, h3, h4, h5, h6⟩ | ⟨h1, h2⟩
    · have hi := lists h3
      have hp : L[i]? = some L[i] := List.getElem?_eq_getElem hi
      have hel := R.els L[i] (List.getElem_mem hi)
      have he : es[i]? = some (El.row w L[i]) := by rw [R.row, hp] <;> rfl
      have tail : wpAny (model prog w) A (searchRest a (.ref x.1) (hshK w x.2) true n es t (way t.mask (hshK w x.2) m) i (stand t (hshK w x.2) (m + 1))) Q E s := by
        unfold searchRest
        simp only [he]
        refine wpAny_bind (wpAny_holding (hel.eq hx hu ?_))
        refine wpAny_bind (wpAny_setState_of ho hd R.fits ?_)
        cases c1 : PyData.eqv L[i].2 x.2 with
        | true =>
          simp only [Bool.and_true, if_true]
          exact wpAny_pure (yes (List.any_eq_true.mpr ⟨_, List.getElem_mem hi, c1⟩))
        | false =>
          have sl : t.slot (way t.mask (hshK w x.2) m) = .live i := slot_live R.tab.ris h3
          simp only [Bool.and_false, Bool.false_eq_true, if_false, sameMem, if_true, sl, he]
          refine wpAny_bind (wpAny_isSame_ref_self (wpAny_bind (wpAny_pure ?_)))
          simp only [if_true]
          refine ih (m + 1) _ rfl (by omega) (by omega) fun i0 m0 p0 e1 e2 e3 e4 => ?_
          obtain ⟨m1, w1, w2, w3⟩ := hre i0 m0 p0 e1 e2 e3 e4
          refine ⟨m1, w1, ?_, w3⟩
          have hh : hshK w p0.2 = hshK w x.2 := eqv_hsh w _ _ (R.els p0 (List.mem_of_getElem? e1)).has hx.has e2
          have hl : (L.map fun p => hshK w p.2)[i0]? = some (hshK w x.2) := by rw [List.getElem?_map, e1, ← hh] <;> rfl
          rcases Nat.lt_trichotomy m1 m with z | z | z
          · exact absurd hl (h5 m1 i0 w2 z (by rw [w1]; exact e3))
          · subst z
            rw [← w1] at e3
            have s2 := slot_live R.tab.ris e3
            rw [sl] at s2
            injection s2 with s2
            subst s2
            rw [hp] at e1
            cases e1
            rw [c1] at e2
            cases e2
          · omega
      rw [h6]
      dsimp only
      cases hl : t.led with
      | true => exact tail
      | false =>
        simp only [Bool.not_false, if_true]
        refine wpAny_bind (hx.seen (fun y hy => ?_) ?_)
        · obtain ⟨e, he1, rfl⟩ := List.mem_map.mp hy
          have he2 : e ∈ es.toList := by
            have := (Array.mem_toList_iff.mp he1)
            rw [Array.mem_filter] at this
            exact Array.mem_toList_iff.mpr this.1
          rw [R.rows] at he2
          obtain ⟨q, hq, rfl⟩ := List.mem_map.mp he2
          exact ⟨q, rfl, R.els q hq⟩
        · exact tail
    · rw [h2]
      refine wpAny_pure (no ?_)
      rw [Bool.eq_false_iff]
      intro z
      obtain ⟨p, hp, e⟩ := List.any_eq_true.mp z
      obtain ⟨i, hi, rfl⟩ := List.getElem_of_mem hp
      have hp0 : L[i]? = some L[i] := List.getElem?_eq_getElem hi
      have hh : hshK w L[i].2 = hshK w x.2 := eqv_hsh w _ _ (R.els _ hp).has hx.has e
      have hl : (L.map fun p => hshK w p.2)[i]? = some (hshK w x.2) := by rw [List.getElem?_map, hp0, ← hh] <;> rfl
      have hpl : i < t.place.toList.length := by rw [Array.length_toList, R.tab.sz, List.length_map]; exact hi
      have hj := List.getElem?_eq_getElem hpl
      obtain ⟨m, hm, w0⟩ := R.tab.before hK hl hj
      rw [← w0] at hj
      obtain ⟨m', w1, w2, w3⟩ := hre i m _ hp0 e hj hm
      exact h1 m' i w2 w3 (by rw [w1]; exact hj) hl
/-- the search as adding asks for it -/
theorem SetN.search (R : SetN w s.heap a L es ep t) (hx : El s.heap x) (hu : A.units + 10 < cLine) {Q : SetFound → Shared → Prop} (yes : inK L x.2 = true → Q (.there none) s)
    (no : ∀ K, inK L x.2 = false → way t.mask (hshK w x.2) K ∉ t.place.toList → (∀ c, c < K → way t.mask (hshK w x.2) c ∈ t.place.toList) → Q (.free (way t.mask (hshK w x.2) K) false) s) :
    wpAny (model prog w) A (setSearch a (.ref x.1) (hshK w x.2) true) Q E s := by
  have := R.room
  obtain ⟨K, hf, hK, hb⟩ := R.tab.first (by rw [List.length_map]; omega) (hshK w x.2)
  have big : K < 100000 := by
    have := R.tab.mok
    unfold SetTable.turns at hf
    rcases this with e | e | e <;> rw [e] at hf <;> omega
  exact R.seek hx hu hf hK hb yes (fun z => no K z hK hb) 100000 0 none rfl (Nat.zero_le _) (by omega) fun i m p _ _ _ hm => ⟨m, rfl, Nat.zero_le _, hm⟩
end
end DL

set_option Elab.async false
set_option linter.all false
set_option maxRecDepth 100000
set_option maxHeartbeats 4000000
set_option autoImplicit false
namespace DL
open PySem PySem.Spec PyProof.Rows L2
/-! ### what reads does so where all but a set stays -/
section
variable {h h' : Heap} {a : Addr}
mutual
theorem reads_but (na : ∀ o vs n, h.get? a = some o → o.data ≠ .seq vs n) (sb : Heap.SameBut a h h') : ∀ (d : PyData) {v : Value} {as : List Addr}, hasK d = true → Reads h v d as → Reads h' v d as
  | .tuple xs, v, as, hk, r => by
    cases r with
    | tuple h1 h2 h3 h4 =>
      simp only [hasK] at hk
      refine .tuple ((sb.2 _ fun z => ?_).trans h1) h2 h3 (readsAll_but na sb xs hk h4)
      subst z
      exact na _ _ _ h1 h3
  | .int i, v, as, _, r => by cases r; constructor
  | .str x, v, as, _, r => by cases r; constructor
  | .bool b, v, as, _, r => by cases r; constructor
  | .none, v, as, hk, _ => by simp [hasK] at hk
  | .list _, v, as, hk, _ => by simp [hasK] at hk
  | .dict _, v, as, hk, _ => by simp [hasK] at hk
theorem readsAll_but (na : ∀ o vs n, h.get? a = some o → o.data ≠ .seq vs n) (sb : Heap.SameBut a h h') : ∀ (ds : List PyData) {vs : List Value} {as : List Addr}, hasKs ds = true → ReadsAll h vs ds as → ReadsAll h' vs ds as
  | [], _, _, _, r => by cases r; constructor
  | d :: ds, _, _, hk, r => by
    cases r with
    | cons r1 r2 =>
      simp only [hasKs, Bool.and_eq_true] at hk
      exact .cons (reads_but na sb d hk.1 r1) (readsAll_but na sb ds hk.2 r2)
end
end
/-- a list by an order of its places -/
theorem by_order {α β : Type} (f : α → β) (L : List α) (es : Array β) (hr : es.toList = L.map f) (order : Array Nat) (hp : order.toList.Perm (List.range L.length)) :
    ∃ L' : List α, (order.filterMap (es[·]?)).toList = L'.map f ∧ L'.Perm L ∧ ∀ (g : β → Int) (z : Int), L'.map (fun p => g (f p)) = order.toList.map fun i => (es.map g).getD i z := by
  have at_ : ∀ i : Nat, es[i]? = L[i]?.map f := fun i => by rw [← Array.getElem?_toList, hr, List.getElem?_map]
  have lt : ∀ i ∈ order.toList, i < L.length := fun i hi => List.mem_range.mp (hp.mem_iff.mp hi)
  have e : ∀ M : List α, (List.range M.length).filterMap (fun i => M[i]?) = M := fun M => by
    have h1 : ∀ i ∈ List.range M.length, M[i]? = (fun i => M[i]?) i := fun _ _ => rfl
    refine List.ext_getElem? fun i => ?_
    have : ∀ l : List Nat, (∀ j ∈ l, j < M.length) → ∀ i : Nat, (l.filterMap fun j => M[j]?)[i]? = l[i]?.bind fun j => M[j]? := by
      intro l
      induction l with
      | nil => intro _ i; simp
      | cons j l ih =>
        intro hl i
        have hj := List.getElem?_eq_getElem (hl j List.mem_cons_self)
        rw [List.filterMap_cons_some hj]
        cases i with
        | zero => simp only [List.getElem?_cons_zero, Option.bind_some, hj]
        | succ i => simp only [List.getElem?_cons_succ]; exact ih (fun q hq => hl q (List.mem_cons_of_mem _ hq)) i
    rw [this _ (fun j hj => List.mem_range.mp hj)]
    rcases Nat.lt_or_ge i M.length with c | c
    · rw [List.getElem?_range c] <;> rfl
    · rw [List.getElem?_eq_none (by simpa using c), List.getElem?_eq_none c] <;> rfl
  refine ⟨order.toList.filterMap fun i => L[i]?, ?_, ?_, fun g z => ?_⟩
  · rw [Array.toList_filterMap, List.map_filterMap]
    exact congrArg (fun q => order.toList.filterMap q) (funext at_)
  · have := hp.filterMap fun i => L[i]?
    rw [e L] at this
    exact this
  · revert lt
    generalize order.toList = l
    intro lt
    induction l with
    | nil => rfl
    | cons i l ih =>
      have hi := List.getElem?_eq_getElem (lt i List.mem_cons_self)
      rw [List.filterMap_cons_some hi, List.map_cons, List.map_cons, ih fun j hj => lt j (List.mem_cons_of_mem _ hj)]
      congr 1
      rw [Array.getD_eq_getD_getElem?, Array.getElem?_map, at_, hi] <;> rfl
section
variable {prog : Program} {w : World} {A : Around} {E : Value → Shared → Prop} {s : Shared} {a : Addr} {L : List (Addr × PyData)} {es : Array (Int × Value)} {ep : Nat} {t : SetTable} {x : Addr × PyData} {o : Obj}
theorem El.but {h h' : Heap} {p : Addr × PyData} (hp : El h p) (ho : h.get? a = some o) (hd : o.data = .set es ep t) (sb : Heap.SameBut a h h') : El h' p := by
  obtain ⟨⟨as, r⟩, h2, h3⟩ := hp
  refine ⟨⟨as, reads_but (a := a) (fun o' vs n e z => ?_) sb _ h2 r⟩, h2, h3⟩
  rw [ho] at e
  cases e
  rw [hd] at z
  cases z
/-- the table laid anew -/
theorem set_grow (ho : s.heap.get? a = some o) (hex : o.ExactSet) (hd : o.data = .set es ep t) (hr : es.toList = L.map (El.row w)) (tab : TabOk t (L.map fun p => hshK w p.2)) (els : ∀ p ∈ L, El s.heap p) (few : L.length < 64) (le : L.length ≤ t.mask)
    {want M : Nat} (hw : SetTable.sizeAbove want = M + 1) (hM : MaskOk M) (hn : L.length * 5 < M * 3) {Q : Unit → Shared → Prop}
    (q : ∀ h' L' es' ep' t', Heap.SameBut a s.heap h' → SetN w h' a L' es' ep' t' → L'.Perm L → Q () { s with heap := h' }) : wpAny (model prog w) A (setRelay a want) Q E s := by
  have sz : es.size = L.length := by rw [← Array.length_toList, hr, List.length_map]
  have mb : M ≤ 127 := by rcases hM with e | e | e <;> omega
  have psz := tab.sz
  rw [List.length_map] at psz
  obtain ⟨t', order, e1, e2, e3, e4, _, _, e5⟩ := relaid_ok t (hs := es.map (·.1)) (wanted := want) (M := M) (by omega) hM (by rw [Array.size_map, sz]; omega)
  rw [Array.size_map, sz] at e2
  obtain ⟨L', l1, l2, l3⟩ := by_order (El.row w) L es hr order e2
  have l4 := l3 (fun p => p.1) 0
  have e3' : TabOk t' (L'.map fun p => hshK w p.2) := by
    have : (L'.map fun p => hshK w p.2) = order.toList.map fun i => (es.map (fun p => p.1)).getD i 0 := l4
    rw [this]; exact e3
  have sz' : (order.filterMap (es[·]?)).size = L.length := by rw [← Array.length_toList, l1, List.length_map, l2.length_eq]
  rw [setRelay_eq]
  refine wpAny_bind (wpAny_setState_of ho hd (fits_few tab.dm (by omega) (by omega)) ?_)
  dsimp only
  rw [if_neg (by rw [hw, sizeLine_eq]; omega), e1]
  refine wpAny_bind ?_
  dsimp only
  rw [if_neg (by rw [sz', sz]; simp)]
  refine wpAny_pure ?_
  refine wpAny_storeSet_of ho hd ?_ (by rw [sz', sizeLine_eq]; omega)
  have sb : Heap.SameBut a s.heap (s.heap.update a (Obj.putSet (order.filterMap (es[·]?)) t')) := Heap.SameBut.update ..
  exact q _ L' _ (ep + 1) t' sb ⟨⟨_, store_at ho hd, ⟨hex.1, hex.2.1, hex.2.2⟩, rfl⟩, l1, e3', fun p hp => (els p (l2.mem_iff.mp hp)).but ho hd sb, by rw [l2.length_eq, e4]; exact hn, by rw [l2.length_eq]; exact few⟩ l2
/-- a key put into the set -/
theorem SetN.add (R : SetN w s.heap a L es ep t) (hx : El s.heap x) (hu : A.units + 10 < cLine) (few : L.length + 1 < 64) {Q : Bool → Shared → Prop}
    (q : ∀ b h' L' es' ep' t', Heap.SameBut a s.heap h' → SetN w h' a L' es' ep' t' → (if inK L x.2 then L' = L else L'.Perm (x :: L)) → Q b { s with heap := h' }) : wpAny (model prog w) A (setAddHashed a (.ref x.1) (hshK w x.2)) Q E s := by
  obtain ⟨o, ho, hex, hd⟩ := R.ob
  have sz := R.size
  have room := R.room
  unfold setAddHashed
  refine wpAny_holding ?_
  rw [show (100000 : Nat) = 99999 + 1 from rfl, setAddHashedIn_succ]
  refine wpAny_bind (wpAny_setState_of ho hd R.fits ?_)
  dsimp only
  rw [if_neg (by simp [byScan, Value.scannable])]
  refine wpAny_bind (R.search hx hu (fun c => ?_) fun K c hK hb => ?_)
  · exact wpAny_pure (q false s.heap L es ep t (Heap.SameBut.refl a s.heap) R (by rw [c] <;> rfl))
  · refine wpAny_bind (wpAny_setState_of ho hd R.fits ?_)
    obtain ⟨q1, q2, q3, q4, _, _, _, _, q9⟩ := R.tab.put hK hb
    dsimp only
    generalize t.put (way t.mask (hshK w x.2) K) = pt at q1 q3 q4 q9 ⊢
    obtain ⟨t1, p⟩ := pt
    dsimp only at q1 q3 q4 q9 ⊢
    subst q1
    generalize SetTable.below t.place (way t.mask (hshK w x.2) K) = p at q2 q3 ⊢
    have pm : (L.take p ++ x :: L.drop p).Perm (x :: L) := put_perm L p x
    have rows1 : (SetTable.insertAt es p (hshK w x.2, Value.ref x.1)).toList = (L.take p ++ x :: L.drop p).map (El.row w) := by
      rw [SetTable.toList_insertAt, R.rows, List.map_append, List.map_cons, List.map_take, List.map_drop]
    have hs1 : (L.map fun p => hshK w p.2).take p ++ hshK w x.2 :: (L.map fun p => hshK w p.2).drop p = (L.take p ++ x :: L.drop p).map fun p => hshK w p.2 := by
      rw [List.map_append, List.map_cons, List.map_take, List.map_drop]
    rw [hs1] at q3
    have len1 : (L.take p ++ x :: L.drop p).length = L.length + 1 := by rw [pm.length_eq] <;> rfl
    have cont : ∀ b : Bool, wpAny (model prog w) A (do
        storeSet a (SetTable.insertAt es p (hshK w x.2, Value.ref x.1)) (if b = true then t1 else { t1 with plain := false })
        if (!false && (if b = true then t1 else { t1 with plain := false }).tooFull) = true then setRelay a (SetTable.grown (es.size + 1))
        pure true) Q E s := by
      intro b
      obtain ⟨t2, h2⟩ : ∃ t2, t2 = (if b = true then t1 else { t1 with plain := false }) := ⟨_, rfl⟩
      have T2 : TabOk t2 ((L.take p ++ x :: L.drop p).map fun p => hshK w p.2) ∧ t2.mask = t.mask ∧ t2.fill = L.length + 1 := by
        rw [h2]
        rw [List.length_map] at q9
        cases b
        · exact ⟨⟨q3.ris, q3.dm, q3.sz, q3.mok, q3.bd, q3.reach⟩, q4, q9⟩
        · exact ⟨q3, q4, q9⟩
      rw [← h2]
      obtain ⟨T2, m2, f2⟩ := T2
      generalize SetTable.insertAt es p (hshK w x.2, Value.ref x.1) = es1 at rows1 ⊢
      have sz1 : es1.size = L.length + 1 := by rw [← Array.length_toList, rows1, List.length_map, len1]
      generalize L.take p ++ x :: L.drop p = L1 at *
      refine wpAny_bind (wpAny_storeSet_of ho hd ?_ (by rw [sz1, sizeLine_eq]; omega))
      have sb : Heap.SameBut a s.heap (s.heap.update a (Obj.putSet es1 t2)) := Heap.SameBut.update ..
      have ho1 := store_at (es' := es1) (t' := t2) ho hd
      generalize s.heap.update a (Obj.putSet es1 t2) = h1 at sb ho1 ⊢
      have els1 : ∀ p ∈ L1, El h1 p := fun p hp => by
        rcases List.mem_cons.mp (pm.mem_iff.mp hp) with e | hp
        · rw [e]; exact hx.but ho hd sb
        · exact (R.els p hp).but ho hd sb
      have tf : t2.tooFull = decide ((L.length + 1) * 5 ≥ t.mask * 3) := by unfold SetTable.tooFull; rw [f2, m2]
      rw [tf]
      by_cases full : (L.length + 1) * 5 ≥ t.mask * 3
      · simp only [Bool.not_false, Bool.true_and, decide_eq_true full, if_true]
        have two : L.length = 4 ∨ L.length = 18 := by rcases R.tab.mok with e | e | e <;> rw [e] at full room <;> omega
        have grow : ∀ M, SetTable.sizeAbove (SetTable.grown (es.size + 1)) = M + 1 → MaskOk M → (L.length + 1) * 5 < M * 3 → wpAny (model prog w) A (setRelay a (SetTable.grown (es.size + 1)) >>= fun _ => pure true) Q E { s with heap := h1 } := fun M g1 g2 g3 => by
          refine wpAny_bind (set_grow (s := { s with heap := h1 }) (L := L1) ho1 ⟨hex.1, hex.2.1, hex.2.2⟩ rfl rows1 T2 els1 (by omega) (by omega) g1 g2 (by omega) fun h' L' es' ep' t' sb' R' pm' => ?_)
          exact wpAny_pure (q true h' L' es' ep' t' (sb.trans sb') R' (by rw [c]; exact pm'.trans pm))
        rcases two with e | e
        · exact grow 31 (by rw [sz, e, size_20]) (.inr (.inl rfl)) (by omega)
        · exact grow 127 (by rw [sz, e, size_76]) (.inr (.inr rfl)) (by omega)
      · simp only [Bool.not_false, Bool.true_and, decide_eq_false full, Bool.false_eq_true, if_false]
        exact wpAny_pure (q true h1 L1 es1 (ep + 1) t2 sb ⟨⟨_, ho1, ⟨hex.1, hex.2.1, hex.2.2⟩, rfl⟩, rows1, T2, els1, by omega, by omega⟩ (by rw [c]; exact pm))
    obtain ⟨as, r⟩ := hx.rd
    cases pl : t1.plain with
    | true =>
      simp only [if_true]
      exact wpAny_bind (byval_data 8 x.2 r hx.has fun b => cont b)
    | false =>
      simp only [Bool.false_eq_true, if_false]
      exact wpAny_bind (wpAny_pure (cont true))
/-- a new set -/
theorem setN_new {h : Heap} {led : Bool} (ho : h.get? a = some { cls := .type "set", dict := none, data := .set #[] 0 (.fresh 0 0 led) }) : SetN w h a [] #[] 0 (.fresh 0 0 led) :=
  ⟨⟨_, ho, ⟨rfl, rfl, rfl⟩, rfl⟩, rfl, ⟨List.Pairwise.nil, rfl, rfl, .inl rfl, fun x hx => (by cases hx), fun i h j hi => (by simp at hi)⟩, fun p hp => (by cases hp), (by show 0 * 5 < 7 * 3; decide), (by show 0 < 64; decide)⟩
end
end DL

set_option Elab.async false
set_option linter.all false
set_option maxRecDepth 100000
set_option maxHeartbeats 4000000
set_option autoImplicit false
namespace DL
open PySem PySem.Spec PyProof.Rows L2
/-! ### a set filled from anything that is walked, by what holds behind each item -/
section
variable {prog : Program} {w : World} {A : Around} {R : Result → Shared → Prop} {I : Addr} {fp wr : List Addr} {G : Array GenState → Array GenState → Prop} {n : Nat} {P : Nat → Value → Prop} {St : Nat → Shared → Prop}
theorem fill_loop (W : WalksS prog w A.in1 I fp wr G n P St) {S : Addr} (hS : S ∉ fp) {J : Nat → Heap → Prop} (keep : ∀ i h h', (∀ b o, b ∉ wr → h.get? b = some o → h'.get? b = some o) → J i h → J i h')
    (step : ∀ i v (s : Shared) (E : Value → Shared → Prop) (Q : Bool → Shared → Prop), i < n → P i v → J i s.heap → (∀ b h' tk, s.toks ≤ tk → Heap.SameBut S s.heap h' → J (i + 1) h' → Q b { s with heap := h', toks := tk }) → wpAny (model prog w) A.in1 (setAdd S v) Q E s) :
    ∀ (m i : Nat) (s : Shared), i + m = n → St i s → J i s.heap → (∀ s', Moved (S :: wr) G s s' → J n s'.heap → R (.ok (.ret .none)) s') → codeAny (model prog w) A (.builtin "set.update.loop" ⟨[.ref S, .ref I], []⟩) R s := by
  have up : ∀ b ∈ wr, b ∈ S :: wr := fun b hb => List.mem_cons_of_mem _ hb
  intro m
  induction m with
  | zero =>
    intro i s hm hst hj hR
    obtain rfl : i = n := by omega
    refine codeAny_builtin PyProof.Rows.F.entry_set_update_loop ?_
    rw [Around.under_plainId PyProof.Rows.F.plain_set_update_loop _]
    show wpAny _ A.in1 (pyNext (.ref I) >>= _) _ _ s
    exact wpAny_bind (W.done s _ _ hst fun s' mv => wpAny_pure (hR s' (mv.mono up) (keep _ _ _ mv.heap hj)))
  | succ m ih =>
    intro i s hm hst hj hR
    refine codeAny_builtin PyProof.Rows.F.entry_set_update_loop ?_
    rw [Around.under_plainId PyProof.Rows.F.plain_set_update_loop _]
    show wpAny _ A.in1 (pyNext (.ref I) >>= _) _ _ s
    refine wpAny_bind (W.item i s _ _ (by omega) hst fun v s1 hp st1 mv => ?_)
    show wpAny _ A.in1 (holding [v] (setAdd S v) >>= _) _ _ s1
    refine wpAny_bind (wpAny_holding (step i v s1 _ _ (by omega) hp (keep _ _ _ mv.heap hj) fun b h' tk ht sb j' => ?_))
    have ne : ∀ c : Addr, c ≠ S → ∀ o, s1.heap.get? c = some o → h'.get? c = some o := fun c hc o e => (sb.2 c hc).trans e
    refine wpAny_pure ⟨plainId_quiet PyProof.Rows.F.plain_set_update_loop _, ih (i + 1) _ (by omega) (W.frame _ s1 _ _ st1 ht fun c hc o e => ne c (fun z => hS (z ▸ hc)) o e) j' fun s2 mv2 j2 => hR s2 ?_ j2⟩
    exact Moved.trans W.gtrans ((mv.mono up).then_heap ht fun c o hc e => ne c (fun z => hc (z ▸ List.mem_cons_self)) o e) mv2
end
section
variable {prog : Program} {w : World} {A : Around} {E : Value → Shared → Prop} {s : Shared}
abbrev setObj (led : Bool) : Obj := { cls := .type "set", dict := none, data := .set #[] 0 (.fresh 0 0 led) }
set_option maxHeartbeats 3200000 in
/-- set(v): a new set, then what its init does -/
theorem made_set {v : Value} {J : Shared → Prop} {Q : Value → Shared → Prop}
    (run : ∀ led, wpAny (model prog w) A.in1.in1 (Builtin.«set.__init__» ⟨[.ref s.heap.objs.size, v], []⟩) (fun r s' => r = .done (.ret .none) ∧ J s') E { s with heap := s.heap.push (setObj led) })
    (q : ∀ s', J s' → Q (.ref s.heap.objs.size) s') : wpAny (model prog w) A (call (.type "set") [v]) Q E s := by
  obtain ⟨c, tl, hmro⟩ := PySem.F.called_set.mro
  have hmade := PySem.F.called_set.made
  have hsub := PySem.F.called_set.sub
  refine wpAny_call (codeAny_of_tree ?_)
  show wpAny _ _ (callAny (.type "set") _) _ _ _
  refine wpAny_pure ⟨Code.quiet_builtin _ (by decide +kernel), codeAny_builtin PySem.F.entry_type_call ?_⟩
  rw [Around.under_plain (weight_type_call_type "set" [v] []) rfl]
  have h1 := PySem.F.called_set.notType
  have h2 := PySem.F.called_set.canCreate
  have hct := PySem.F.typeCall_set_1 v
  repeat (any_goals (first | assumption | wp_step))
  refine codeAny_mono (code_set_new_1 v (E := E) (Q₁ := fun obj s₁ => ∃ led : Bool, obj = .ref s.heap.objs.size ∧ s₁ = { s with heap := s.heap.push (setObj led) }) fun led => ⟨led, rfl, rfl⟩) fun r s₁ hr => ?_
  rcases r with e | fl
  · exact hr
  cases fl with
  | ret obj =>
    obtain ⟨led, rfl, rfl⟩ := hr
    have hT : Shared.TypeIs { s with heap := s.heap.push (setObj led) } (.ref s.heap.objs.size) "set" := ⟨_, Heap.get?_push_size _ rfl, rfl⟩
    have hli := PySem.F.called_set.init.lookup
    have hbi := PySem.F.called_set.init.bind (.ref s.heap.objs.size)
    repeat (any_goals (first | assumption | wp_step))
    refine codeAny_mono (codeAny_call_builtin (R := wants (fun r s₂ => r = .none ∧ J s₂) E) PySem.F.called_set.init.plain PySem.F.entry_set_init (check_set_init_1 hT ?_)) fun r₂ s₂ hr₂ => ?_
    · exact wpAny_mono (run led) (fun r s' h => by obtain ⟨rfl, j⟩ := h; exact ⟨rfl, j⟩) fun _ _ h => h
    · rcases r₂ with e | fl₂
      · exact hr₂
      cases fl₂ with
      | ret r =>
        obtain ⟨rfl, hj⟩ := hr₂
        repeat (any_goals (first | assumption | wp_step))
        exact q _ hj
      | _ => exact hr₂.elim
  | _ => exact hr.elim

set_option maxHeartbeats 3200000 in
theorem init_list {S l : Addr} {items : Array Value} {led : Bool} {J : Nat → Heap → Prop} (hh : A.handled = none) (hl : s.heap.IsList l items) (hS : s.heap.get? S = some (setObj led))
    (keep : ∀ i h h', (∀ b o, b ∉ [s.heap.objs.size] → h.get? b = some o → h'.get? b = some o) → J i h → J i h')
    (step : ∀ i v (s' : Shared) (E : Value → Shared → Prop) (Q : Bool → Shared → Prop), i < items.size → items[i]? = some v → J i s'.heap → (∀ b h' tk, s'.toks ≤ tk → Heap.SameBut S s'.heap h' → J (i + 1) h' → Q b { s' with heap := h', toks := tk }) → wpAny (model prog w) A.in1 (setAdd S v) Q E s')
    (j0 : ∀ h', (∀ b o, s.heap.get? b = some o → h'.get? b = some o) → J 0 h') :
    wpAny (model prog w) A (Builtin.«set.__init__» ⟨[.ref S, .ref l], []⟩) (fun r s' => r = .done (.ret .none) ∧ ∃ h' tk, s' = { s with heap := h', toks := tk } ∧ J items.size h') E s := by
  have hT : s.TypeIs (.ref S) "set" := ⟨_, hS, rfl⟩
  have ne : l ≠ s.heap.objs.size := by
    obtain ⟨o, ho, _⟩ := hl
    exact Nat.ne_of_lt (Heap.lt_size ho)
  have ne2 : S ≠ l := by
    rintro rfl
    obtain ⟨o, ho, hc, _⟩ := hl
    rw [hS] at ho
    cases ho
    simp at hc
  have hSs : S < s.heap.objs.size := Heap.lt_size hS
  obtain ⟨ol, hol, hcl, nl, hdl⟩ := hl
  obtain ⟨ocls, odict, odata, oslots⟩ := ol
  simp only at hcl hdl
  subst hcl; subst hdl
  have hsls := PySem.F.sub_list_set
  have hslf := PySem.F.sub_list_frozenset
  have hne : (Value.type "list" == Value.type "dict") = false := by decide
  have hl1 : s.heap.IsList l items := ⟨_, hol, rfl, nl, rfl⟩
  unfold Builtin.«set.__init__» noKeywords Builtin.Frozenset.updateFrom
  generalize hPI : pyIter = PI
  wp_walk
  subst hPI
  refine wpAny_pyIter_list hl1 (wpAny_bind (wpAny_runValue ?_))
  refine fill_loop ((Walks.list (show A.in1.handled = none by simp [hh]) _ l ne items).toS) (S := S) (J := J) ?ns keep (fun i v s' E' Q' hi hv j q => step i v s' E' Q' hi hv j q) items.size 0 _ (by omega) ?st ?j0 ?fin
  case ns =>
    intro z
    simp only [List.mem_cons, List.not_mem_nil, or_false] at z
    rcases z with z | z
    · exact absurd hSs (z ▸ Nat.lt_irrefl _)
    · exact ne2 z
  case fin =>
    intro s' mv j
    obtain ⟨h', g', d', tk', os'⟩ := s'
    have eg : g' = s.gens := mv.gens
    have ed : d' = s.drawn := mv.drawn
    have eo : os' = s.os := mv.os
    subst eg; subst ed; subst eo
    exact wpAny_pure (wpAny_pure ⟨rfl, h', tk', rfl, j⟩)
  case st => exact ⟨⟨_, Heap.get?_push_size _ rfl, rfl, rfl⟩, hl1.push _⟩
  case j0 => exact j0 _ fun b o e => Heap.get?_push_of_some _ e

set_option maxHeartbeats 3200000 in
theorem init_tuple {S l : Addr} {items : Array Value} {led : Bool} {J : Nat → Heap → Prop} (hh : A.handled = none) (hl : s.heap.IsTuple l items) (hS : s.heap.get? S = some (setObj led))
    (keep : ∀ i h h', (∀ b o, b ∉ [s.heap.objs.size] → h.get? b = some o → h'.get? b = some o) → J i h → J i h')
    (step : ∀ i v (s' : Shared) (E : Value → Shared → Prop) (Q : Bool → Shared → Prop), i < items.size → items[i]? = some v → J i s'.heap → (∀ b h' tk, s'.toks ≤ tk → Heap.SameBut S s'.heap h' → J (i + 1) h' → Q b { s' with heap := h', toks := tk }) → wpAny (model prog w) A.in1 (setAdd S v) Q E s')
    (j0 : ∀ h', (∀ b o, s.heap.get? b = some o → h'.get? b = some o) → J 0 h') :
    wpAny (model prog w) A (Builtin.«set.__init__» ⟨[.ref S, .ref l], []⟩) (fun r s' => r = .done (.ret .none) ∧ ∃ h' tk, s' = { s with heap := h', toks := tk } ∧ J items.size h') E s := by
  have hT : s.TypeIs (.ref S) "set" := ⟨_, hS, rfl⟩
  have ne : l ≠ s.heap.objs.size := by
    obtain ⟨o, ho, _⟩ := hl
    exact Nat.ne_of_lt (Heap.lt_size ho)
  have ne2 : S ≠ l := by
    rintro rfl
    obtain ⟨o, ho, hc, _⟩ := hl
    rw [hS] at ho
    cases ho
    simp at hc
  have hSs : S < s.heap.objs.size := Heap.lt_size hS
  obtain ⟨ol, hol, hcl, nl, hdl⟩ := hl
  obtain ⟨ocls, odict, odata, oslots⟩ := ol
  simp only at hcl hdl
  subst hcl; subst hdl
  have hsls := PySem.F.sub_tuple_set
  have hslf := PySem.F.sub_tuple_frozenset
  have hne : (Value.type "tuple" == Value.type "dict") = false := by decide
  have hl1 : s.heap.IsTuple l items := ⟨_, hol, rfl, nl, rfl⟩
  unfold Builtin.«set.__init__» noKeywords Builtin.Frozenset.updateFrom
  generalize hPI : pyIter = PI
  wp_walk
  subst hPI
  refine wpAny_pyIter_tuple hl1 (wpAny_bind (wpAny_runValue ?_))
  refine fill_loop ((Walks.tuple (show A.in1.handled = none by simp [hh]) _ l ne items).toS) (S := S) (J := J) ?ns keep (fun i v s' E' Q' hi hv j q => step i v s' E' Q' hi hv j q) items.size 0 _ (by omega) ?st ?j0 ?fin
  case ns =>
    intro z
    simp only [List.mem_cons, List.not_mem_nil, or_false] at z
    rcases z with z | z
    · exact absurd hSs (z ▸ Nat.lt_irrefl _)
    · exact ne2 z
  case fin =>
    intro s' mv j
    obtain ⟨h', g', d', tk', os'⟩ := s'
    have eg : g' = s.gens := mv.gens
    have ed : d' = s.drawn := mv.drawn
    have eo : os' = s.os := mv.os
    subst eg; subst ed; subst eo
    exact wpAny_pure (wpAny_pure ⟨rfl, h', tk', rfl, j⟩)
  case st => exact ⟨⟨_, Heap.get?_push_size _ rfl, rfl, rfl⟩, hl1.push _⟩
  case j0 => exact j0 _ fun b o e => Heap.get?_push_of_some _ e
end
end DL

set_option Elab.async false
set_option linter.all false
set_option maxRecDepth 100000
set_option maxHeartbeats 4000000
set_option autoImplicit false
namespace DL
open PySem PySem.Spec PyProof.Rows L2
/-! ### len(set(..)) of nested data -/
def kStep (acc : List PyData) (k : PyData) : List PyData := if acc.any (fun z => PyData.eqv z k) then acc else acc ++ [k]
def kSet (ks : List PyData) : List PyData := ks.foldl kStep []
theorem kSet_snoc (ks : List PyData) (k : PyData) : kSet (ks ++ [k]) = kStep (kSet ks) k := by unfold kSet; rw [List.foldl_append] <;> rfl
theorem kStep_len (acc : List PyData) (k : PyData) : (kStep acc k).length ≤ acc.length + 1 := by unfold kStep; split <;> simp
theorem kSet_le : ∀ (ks acc : List PyData), (ks.foldl kStep acc).length ≤ acc.length + ks.length
  | [], acc => Nat.le_refl _
  | k :: ks, acc => by
    have h1 := kSet_le ks (kStep acc k)
    have h2 := kStep_len acc k
    simp only [List.foldl_cons, List.length_cons]
    omega
section
variable {prog : Program} {w : World} {A : Around} {E : Value → Shared → Prop} {s : Shared}
/-- the set holds what has come, each once -/
structure Came (w : World) (h0 h : Heap) (S : Addr) (ks : List (Addr × PyData)) (i : Nat) : Prop where
  keeps : ∀ b o, h0.get? b = some o → h.get? b = some o
  set : ∃ L es ep t, SetN w h S L es ep t ∧ (∀ p ∈ L, p ∈ ks) ∧ L.length = (kSet ((ks.take i).map (·.2))).length ∧ ∀ z, hasK z = true → inK L z = (kSet ((ks.take i).map (·.2))).any fun y => PyData.eqv y z
theorem Came.next {h0 : Heap} {S : Addr} {ks : List (Addr × PyData)} (els : ∀ p ∈ ks, El h0 p) (few : ks.length < 64) (hS : h0.get? S = none) (hu : A.units + 20 < cLine) {i : Nat} {x : Addr × PyData} (hi : ks[i]? = some x) (C : Came w h0 s.heap S ks i) {Q : Bool → Shared → Prop}
    (q : ∀ b h' tk, s.toks ≤ tk → Heap.SameBut S s.heap h' → Came w h0 h' S ks (i + 1) → Q b { s with heap := h', toks := tk }) : wpAny (model prog w) A (setAdd S (.ref x.1)) Q E s := by
  obtain ⟨L, es, ep, t, N, sub, len, mem⟩ := C.set
  have hx0 := els x (List.mem_of_getElem? hi)
  have up : ∀ p ∈ ks, El s.heap p := fun p hp => by
    obtain ⟨⟨as, r⟩, h2, h3⟩ := els p hp
    exact ⟨⟨as, Reads.keeps C.keeps r⟩, h2, h3⟩
  have hx := up x (List.mem_of_getElem? hi)
  obtain ⟨as, r⟩ := hx.rd
  have il : i < ks.length := (List.getElem?_eq_some_iff.mp hi).1
  have lt : L.length ≤ i := by
    rw [len]
    have := kSet_le ((ks.take i).map (·.2)) []
    rw [List.length_map, List.length_take] at this
    simp only [List.length_nil] at this
    unfold kSet
    omega
  unfold setAdd
  refine wpAny_holding (wpAny_bind (hash_data x.2 r hx.has (by have := hx.dp; omega) ?_))
  refine SetN.add (s := { s with toks := s.toks + drwK x.2 }) N hx (by omega) (by omega) fun b h' L' es' ep' t' sb N' hL => ?_
  have tk : (ks.take (i + 1)).map (·.2) = (ks.take i).map (·.2) ++ [x.2] := by rw [List.take_add_one, hi, List.map_append] <;> rfl
  refine q b h' _ (Nat.le_add_right _ _) sb ⟨fun c o e => (sb.2 c fun z => by rw [z, hS] at e; cases e).trans (C.keeps c o e), L', es', ep', t', N', ?_⟩
  rw [tk, kSet_snoc]
  have mx := mem x.2 hx.has
  unfold kStep
  rw [← mx]
  cases c : inK L x.2 with
  | true =>
    rw [c] at hL
    simp only [if_true] at hL
    subst hL
    exact ⟨sub, len, mem⟩
  | false =>
    rw [c] at hL
    simp only [Bool.false_eq_true, if_false] at hL ⊢
    refine ⟨fun p hp => ?_, by rw [hL.length_eq, List.length_cons, List.length_append, len] <;> rfl, fun z hz => ?_⟩
    · rcases List.mem_cons.mp (hL.mem_iff.mp hp) with e | hp
      · rw [e]; exact List.mem_of_getElem? hi
      · exact sub p hp
    · rw [List.any_append, ← mem z hz]
      show L'.any _ = _
      rw [hL.any_eq]
      simp only [List.any_cons, List.any_nil, Bool.or_false]
      exact Bool.or_comm _ _
theorem Came.keep {h0 h h' : Heap} {S : Addr} {ks : List (Addr × PyData)} {i : Nat} {wr : List Addr} (els : ∀ p ∈ ks, El h0 p) (hS : S ∉ wr) (h1 : ∀ b ∈ wr, h0.get? b = none) (k : ∀ b o, b ∉ wr → h.get? b = some o → h'.get? b = some o) (C : Came w h0 h S ks i) : Came w h0 h' S ks i := by
  obtain ⟨L, es, ep, t, N, sub, rest⟩ := C.set
  have kp : ∀ b o, h0.get? b = some o → h'.get? b = some o := fun b o e => k b o (fun z => by rw [h1 b z] at e; cases e) (C.keeps b o e)
  obtain ⟨o, ho, r⟩ := N.ob
  refine ⟨kp, L, es, ep, t, ⟨⟨o, k S o hS ho, r⟩, N.rows, N.tab, fun p hp => ?_, N.room, N.few⟩, sub, rest⟩
  obtain ⟨⟨as, r⟩, h2, h3⟩ := els p (sub p hp)
  exact ⟨⟨as, Reads.keeps kp r⟩, h2, h3⟩
/-- set(xs) of a list or tuple of such data -/
theorem set_data {l : Addr} {items : Array Value} {ks : List (Addr × PyData)} {Q : Value → Shared → Prop} (hh : A.handled = none) (hl : s.heap.IsList l items ∨ s.heap.IsTuple l items) (hi : items.toList = ks.map fun p => Value.ref p.1) (els : ∀ p ∈ ks, El s.heap p) (few : ks.length < 64) (hu : A.units + 40 < cLine)
    (q : ∀ h' tk, Came w s.heap h' s.heap.objs.size ks ks.length → Q (.ref s.heap.objs.size) { s with heap := h', toks := tk }) : wpAny (model prog w) A (call (.type "set") [.ref l]) Q E s := by
  have none_ : ∀ b, s.heap.objs.size ≤ b → s.heap.get? b = none := fun b hb => by
    cases c : s.heap.get? b with
    | none => rfl
    | some o => exact absurd (Nat.lt_of_lt_of_le (Heap.lt_size c) hb) (Nat.lt_irrefl _)
  have isz : items.size = ks.length := by rw [← Array.length_toList, hi, List.length_map]
  refine made_set (J := fun s' => ∃ h' tk, s' = { s with heap := h', toks := tk } ∧ Came w s.heap h' s.heap.objs.size ks items.size) (fun led => ?_) fun s' h => ?_
  · have hS : (s.heap.push (setObj led)).get? s.heap.objs.size = some (setObj led) := Heap.get?_push_size _ rfl
    have keep : ∀ i h h', (∀ b o, b ∉ [(s.heap.push (setObj led)).objs.size] → h.get? b = some o → h'.get? b = some o) → Came w s.heap h s.heap.objs.size ks i → Came w s.heap h' s.heap.objs.size ks i := fun i h h' k C => by
      refine C.keep els (wr := [(s.heap.push (setObj led)).objs.size]) ?_ (fun b hb => ?_) k
      · rw [Heap.size_push, List.mem_singleton]
        exact Nat.ne_of_lt (Nat.lt_succ_self _)
      · rw [List.mem_singleton.mp hb, Heap.size_push]
        exact none_ _ (Nat.le_succ _)
    have step : ∀ i v (s' : Shared) (E : Value → Shared → Prop) (Q : Bool → Shared → Prop), i < items.size → items[i]? = some v → Came w s.heap s'.heap s.heap.objs.size ks i → (∀ b h' tk, s'.toks ≤ tk → Heap.SameBut s.heap.objs.size s'.heap h' → Came w s.heap h' s.heap.objs.size ks (i + 1) → Q b { s' with heap := h', toks := tk }) → wpAny (model prog w) A.in1.in1.in1 (setAdd s.heap.objs.size v) Q E s' := by
      intro i v s' E' Q' hi' hv C q'
      rw [← Array.getElem?_toList, hi, List.getElem?_map] at hv
      cases c : ks[i]? with
      | none => rw [c] at hv; cases hv
      | some x =>
        rw [c] at hv
        cases hv
        exact C.next els few (none_ _ (Nat.le_refl _)) (by show A.units + 1 + 1 + 1 + 20 < cLine; omega) c q'
    have j0 : ∀ h', (∀ b o, (s.heap.push (setObj led)).get? b = some o → h'.get? b = some o) → Came w s.heap h' s.heap.objs.size ks 0 := fun h' k => ⟨fun b o e => k b o (Heap.get?_push_of_some _ e), [], #[], 0, _, setN_new (k _ _ hS), fun p hp => (by cases hp), rfl, fun z _ => rfl⟩
    have h1 : A.in1.in1.handled = none := by simp [hh]
    have fin : ∀ r s', (r = PySem.Fin.done (.ret .none) ∧ ∃ h' tk, s' = { { s with heap := s.heap.push (setObj led) } with heap := h', toks := tk } ∧ Came w s.heap h' s.heap.objs.size ks items.size) → r = PySem.Fin.done (.ret .none) ∧ ∃ h' tk, s' = { s with heap := h', toks := tk } ∧ Came w s.heap h' s.heap.objs.size ks items.size := fun r s' h => h
    rcases hl with hl | hl
    · exact wpAny_mono (init_list (s := { s with heap := s.heap.push (setObj led) }) (S := s.heap.objs.size) h1 (hl.push _) hS keep step j0) fin fun _ _ h => h
    · exact wpAny_mono (init_tuple (s := { s with heap := s.heap.push (setObj led) }) (S := s.heap.objs.size) h1 (hl.push _) hS keep step j0) fin fun _ _ h => h
  · obtain ⟨h', tk, rfl, C⟩ := h
    rw [isz] at C
    exact q h' tk C
end
def tupK : PyData → Bool
  | .tuple _ => true
  | _ => false
theorem reads_refs {h : Heap} : ∀ {vs : List Value} {xs : List PyData} {as : List Addr}, ReadsAll h vs xs as → xs.all tupK = true → ∃ ks : List (Addr × PyData), vs = ks.map (fun p => Value.ref p.1) ∧ xs = ks.map (·.2) ∧ ∀ p ∈ ks, ∃ as, Reads h (.ref p.1) p.2 as
  | _, _, _, .nil, _ => ⟨[], rfl, rfl, fun p hp => by cases hp⟩
  | _, _, _, .cons r1 r2, hk => by
    simp only [List.all_cons, Bool.and_eq_true] at hk
    obtain ⟨ks, h1, h2, h3⟩ := reads_refs r2 hk.2
    cases r1 with
    | tuple a1 a2 a3 a4 =>
      rename_i a o us ys n
      refine ⟨(a, _) :: ks, by rw [h1] <;> rfl, by rw [h2] <;> rfl, fun p hp => ?_⟩
      rcases List.mem_cons.mp hp with e | hp
      · rw [e]; exact ⟨_, .tuple a1 a2 a3 a4⟩
      · exact h3 p hp
    | _ => simp [tupK] at hk
section
variable {X : Cx}
def okSet (as : List PyData) : Prop := as.all tupK = true ∧ hasKs as = true ∧ PyData.depthAll as ≤ 8 ∧ as.length < 64
/-- len(set(xs)), xs ints and texts, or tuples -/
def dLenSetE (te : DE) : DE := fun σ G R => te σ G fun x G1 => match (seqOf G1 x).bind keysD with
  | some ks => ks.length + 1 < scanBound ∧ R (.int (uniq ks).length) G1
  | none => match (seqOf G1 x).bind toPys with | some as => okSet as ∧ R (.int (kSet as).length) G1 | none => False
def tLenSetE (K : PySem.W.Frag) (ta : TE) : TE := fun σ H Q => ta σ H fun x H1 =>
  (∃ l, ∃ ks : List Key, x = .ref l ∧ (SqL K H1 l (ks.map kV) ∨ SqT K H1 l (ks.map kV)) ∧ ks.length + 1 < scanBound ∧ Q (.int (uniq ks).length) H1) ∨
  ∃ l, ∃ vs, ∃ as : List PyData, x = .ref l ∧ (SqL K H1 l vs ∨ SqT K H1 l vs) ∧ DpAll K H1 vs as ∧ okSet as ∧ Q (.int (kSet as).length) H1
theorem pe_lenSetE {a : Expr} {ta : TE} {p p2 q pos : Pos} (hc : X.calm = true) (hu : X.A.units + 100 < cLine) (hg : Gl X "len") (hm : X.mg "len" = none) (hg2 : Gl X "set") (hm2 : X.mg "set" = none) (ha : PE X a ta)
    (na : starEach [a] X.env = (false, eval a X.env) :: starEach [] X.env := by rfl) : PE X (.Call (.Name "len" p) [.Call (.Name "set" p2) [a] [] q] [] pos) (tLenSetE X.K ta) := by
  refine ⟨fun pins s σ H Q I h => ?_⟩
  refine Call_ (ld_blt I hg hm boot_len (PyProof.Rows.callWith_builtin1 (PyProof.Rows.args_cons ?_ rfl) rfl rfl))
  refine Call_ (ld_blt I hg2 hm2 boot_set (PyProof.Rows.callWith_type1 (PyProof.Rows.args_cons (thn (ha.run pins s σ H _ I h) fun v s1 ⟨x, H1, I1, r1, q1⟩ => PyProof.Rows.args_nil ?_) na) na rfl))
  rcases q1 with ⟨l, ks, rfl, hq, h1, q1⟩ | q1
  · cases r1
    have fin : ∀ (h' : Heap) (tk : Nat), h'.SetOf (mixKind X.prog X.w) s1.heap.objs.size (fun k' => memB k' (uniq ks)) (uniq ks).length → (∀ b o, b < s1.heap.objs.size → s1.heap.get? b = some o → h'.get? b = some o) →
        wpAny (model X.prog X.w) X.A (spliced (backTo pos (starEach [] X.env))) (fun vs s2 => wpAny (model X.prog X.w) X.A (call (.builtin "len") (Value.ref s1.heap.objs.size :: vs)) (EP X pins σ Q) X.xe s2) X.xe { s1 with heap := h', toks := tk } := fun h' tk hS hk => by
      obtain ⟨o, es, ep, t, ho, hex, hd, _, _, hb, hf, hn⟩ := hS
      have hsb : (scanBound : Int) ≤ 2 ^ 63 := by unfold scanBound; decide
      exact PyProof.Rows.args_nil (call_len_set ho hex hd hf (by omega) ⟨.int (uniq ks).length, H1, (I1.kept fun b o e => hk b o (Heap.lt_size e) e).tok _, ⟨_, by rw [hn]⟩, q1⟩)
    rcases hq with hq | hq
    · obtain ⟨its, r, pl, hz⟩ := I1.list hq
      exact call_set_listK (I1.ok.hd hc) pl.isList (by simpa using keysAre_of r) h1 fin
    · obtain ⟨its, r, pl, hz⟩ := I1.tuple hq
      exact call_set_tupleK (I1.ok.hd hc) pl (by simpa using keysAre_of r) h1 fin
  obtain ⟨l, vs, as, rfl, hq, hd, ⟨k1, k2, k3, k4⟩, q1⟩ := q1
  cases r1
  have : ∃ its : List Value, Vals vs its ∧ (s1.heap.IsList l its.toArray ∨ s1.heap.IsTuple l its.toArray) := by
    rcases hq with hq | hq
    · obtain ⟨its, r, pl, hz⟩ := I1.list hq
      exact ⟨its, r, .inl pl.isList⟩
    · obtain ⟨its, r, pl, hz⟩ := I1.tuple hq
      exact ⟨its, r, .inr pl⟩
  obtain ⟨its, rv, hl⟩ := this
  obtain ⟨az, rl⟩ := Dp.readsAll I1 as vs its hd rv
  obtain ⟨ks, e1, e2, e3⟩ := reads_refs rl k1
  have lk : ks.length = as.length := by rw [e2, List.length_map]
  refine set_data (I1.ok.hd hc) hl (by simpa using e1) (fun p hp => ⟨e3 p hp, ?_, ?_⟩) (by omega) (by omega) fun h' tk C => ?_
  · exact hasKs_mem k2 (by rw [e2]; exact List.mem_map.mpr ⟨p, hp, rfl⟩)
  · exact depth_mem k3 (by rw [e2]; exact List.mem_map.mpr ⟨p, hp, rfl⟩)
  · refine PyProof.Rows.args_nil ?_
    obtain ⟨L, es, ep, t, N, sub, len, _⟩ := C.set
    obtain ⟨o, ho, hex, hdt⟩ := N.ob
    have I2 : Inv X pins σ H1 { s1 with heap := h', toks := tk } := I1.kept C.keeps
    have sz : es.size = L.length := N.size (s := { s1 with heap := h' })
    have fw := N.few
    rw [List.take_length, ← e2] at len
    exact call_len_set ho hex hdt (N.fits (s := { s1 with heap := h' })) (by omega) ⟨.int (kSet as).length, H1, I2.tok _, ⟨_, by rw [sz, len]⟩, q1⟩
theorem qe_lenSetE {a : Expr} {ta : DE} {p p2 q pos : Pos} (hc : X.calm = true) (hu : X.A.units + 100 < cLine) (hg : Gl X "len") (hm : X.mg "len" = none) (hg2 : Gl X "set") (hm2 : X.mg "set" = none) (ha : QE X a ta)
    (na : starEach [a] X.env = (false, eval a X.env) :: starEach [] X.env := by rfl) : QE X (.Call (.Name "len" p) [.Call (.Name "set" p2) [a] [] q] [] pos) (dLenSetE ta) := pe_mono (pe_lenSetE hc hu hg hm hg2 hm2 ha na) fun τ H Q h => by
  obtain ⟨σ, G, N, R, hs, hgg, ht, q⟩ := h
  refine ⟨σ, G, N, _, hs, hgg, ht, fun x G1 N1 v1 H1 h1 s1 r1 => ?_⟩
  cases e2 : seqOf G1 x with
  | none => rw [e2] at h1; exact h1.elim
  | some ds =>
    rw [e2] at h1
    obtain ⟨p, vs, rfl, sq, r⟩ := seqOf_ok s1.rel r1 e2
    simp only [Option.bind_some] at h1
    split at h1
    · rename_i ks e
      have e3 := keysD_ok r e
      subst e3
      exact .inl ⟨p, ks, rfl, sq, h1.1, (q.le s1).at s1.rel h1.2 (RD.int _)⟩
    · split at h1
      · rename_i as e
        exact .inr ⟨p, vs, as, rfl, sq, toPys_ok r e, h1.1, (q.le s1).at s1.rel h1.2 (RD.int _)⟩
      · exact h1.elim
theorem x_lenSetE {ta : DE} {σ : _} {G : Gp} {R : DK} : dLenSetE ta σ G R = ta σ G fun x G1 => match (seqOf G1 x).bind keysD with
  | some ks => ks.length + 1 < scanBound ∧ R (.int (uniq ks).length) G1
  | none => match (seqOf G1 x).bind toPys with | some as => okSet as ∧ R (.int (kSet as).length) G1 | none => False := rfl
end
end DL

set_option Elab.async false
set_option linter.all false
set_option maxRecDepth 100000
set_option maxHeartbeats 4000000
set_option autoImplicit false
namespace DL
open PySem PySem.Spec PyProof.Rows L2
/-! ### sum(lists, start) -/
section
variable {prog : Program} {w : World} {A : Around} {R : Result → Shared → Prop} {I : Addr} {fp wr : List Addr} {G : Array GenState → Array GenState → Prop} {n : Nat} {P : Nat → Value → Prop} {St : Nat → Shared → Prop}
end
section
variable {prog : Program} {w : World} {A : Around} {E : Value → Shared → Prop} {s : Shared}
end
end DL

set_option Elab.async false
set_option linter.all false
set_option maxRecDepth 100000
set_option maxHeartbeats 4000000
set_option autoImplicit false
namespace DL
open PySem PySem.Spec PyProof.Rows L2
section
variable {X : Cx} {pins : List (Addr × Obj)} {σ : L2.St} {H : Hp} {s : Shared}
end
section
variable {X : Cx}
end
end DL

set_option Elab.async false
set_option linter.all false
set_option maxRecDepth 100000
set_option maxHeartbeats 4000000
set_option autoImplicit false
namespace DL
open PySem PySem.Spec PyProof.Rows L2
/-! ### len(set(..)), read by types -/
mutual
def kyD : D → Bool
  | .int _ => true | .str _ => true | .bl _ => true
  | .tup ds => kyDs ds
  | _ => false
def kyDs : List D → Bool
  | [] => true
  | d :: ds => kyD d && kyDs ds
end
end DL

set_option Elab.async false
set_option linter.all false
set_option maxRecDepth 100000
set_option maxHeartbeats 4000000
set_option autoImplicit false
namespace DL
open PySem PySem.Spec PyProof.Rows L2
/-! ### dicts whose keys are mixed, nested data: read and written -/
section
variable {prog : Program} {w : World} {A : Around} {E : Value → Shared → Prop} {s : Shared} {d : Addr} {o : Obj} {es : Array DictEntry} {ep : Nat} {ks : List PyData} {key v : Value} {k : PyData} {as : List Addr}
end
/-! ### by data -/
def KyOk (kvs : List (D × D)) : Prop := (∀ k ∈ kvs.map (·.1), kyD k = true ∧ depD k ≤ 8) ∧ (kvs.map (·.1)).Pairwise fun p q => eqD p q = false
def ixX (kvs : List (D × D)) (k : D) : Option Nat := kvs.findIdx? fun p => eqD p.1 k
def putX (kvs : List (D × D)) (k v : D) : List (D × D) := match ixX kvs k with
  | some i => kvs.modify i fun p => (p.1, v)
  | none => kvs ++ [(k, v)]
theorem Paired.get {α β : Type} {F : α → β → Prop} : ∀ {xs : List α} {ys : List β} {i : Nat} {a : α}, Paired F xs ys → xs[i]? = some a → ∃ b, ys[i]? = some b ∧ F a b
  | _, _, _, _, .nil, e => by simp at e
  | _, _, 0, _, .cons r t, e => by simp at e; subst e; exact ⟨_, rfl, r⟩
  | _, _, i + 1, a, .cons r t, e => by
    obtain ⟨b, h1, h2⟩ := Paired.get t (i := i) (a := a) (by simpa using e)
    exact ⟨b, by simpa using h1, h2⟩
theorem Paired.app {α β : Type} {F : α → β → Prop} : ∀ {xs xs' : List α} {ys ys' : List β}, Paired F xs ys → Paired F xs' ys' → Paired F (xs ++ xs') (ys ++ ys')
  | _, _, _, _, .nil, q => q
  | _, _, _, _, .cons r t, q => .cons r (Paired.app t q)
theorem Paired.modify {α β : Type} {F : α → β → Prop} {f : α → α} {g : β → β} (h : ∀ a b, F a b → F (f a) (g b)) : ∀ {xs : List α} {ys : List β} (i : Nat), Paired F xs ys → Paired F (xs.modify i f) (ys.modify i g)
  | _, _, _, .nil => by simp; exact .nil
  | _, _, 0, .cons r t => by simp; exact .cons (h _ _ r) t
  | _, _, i + 1, .cons r t => by simp; exact .cons r (Paired.modify h i t)
end DL

set_option Elab.async false
set_option linter.all false
set_option maxRecDepth 100000
set_option maxHeartbeats 4000000
set_option autoImplicit false
namespace DL
open PySem PySem.Spec PyProof.Rows L2
theorem keys_modify (kvs : List (D × D)) (v : D) : ∀ i : Nat, (kvs.modify i fun p => (p.1, v)).map (·.1) = kvs.map (·.1) := by
  induction kvs with
  | nil => intro i; simp
  | cons p kvs ih =>
    intro i
    cases i with
    | zero => simp
    | succ i => simp only [List.modify_succ_cons, List.map_cons, ih]
theorem KyOk.put {kvs : List (D × D)} (ok : KyOk kvs) {k v : D} (hk : kyD k = true) (hd : depD k ≤ 8) : KyOk (putX kvs k v) := by
  unfold putX
  split
  · unfold KyOk
    rw [keys_modify]
    exact ok
  · rename_i e
    unfold KyOk
    rw [List.map_append, List.map_singleton]
    refine ⟨fun z hz => ?_, ?_⟩
    · rcases List.mem_append.mp hz with hz | hz
      · exact ok.1 z hz
      · rw [List.mem_singleton.mp hz]; exact ⟨hk, hd⟩
    · rw [List.pairwise_append]
      refine ⟨ok.2, List.pairwise_singleton _ _, fun z hz y hy => ?_⟩
      rw [List.mem_singleton.mp hy]
      obtain ⟨p, hp, rfl⟩ := List.mem_map.mp hz
      unfold ixX at e
      rw [List.findIdx?_eq_none_iff] at e
      exact e p hp
section
variable {X : Cx} {pins : List (Addr × Obj)} {σ : L2.St} {H : Hp} {s : Shared} {N : Ns} {a : Addr} {kvs : List (D × D)} {kvs' : List (Int × V × V)}
end
end DL

set_option Elab.async false
set_option linter.all false
set_option maxRecDepth 100000
set_option maxHeartbeats 4000000
set_option autoImplicit false
namespace DL
open PySem PySem.Spec PyProof.Rows L2
/-! ### a dict display with text keys, asked at once -/
section
variable {X : Cx} {pos : Pos} {keys : List (Option Expr)} {values : List Expr}
end
end DL

set_option Elab.async false
set_option linter.all false
set_option maxRecDepth 100000
set_option maxHeartbeats 4000000
set_option autoImplicit false
namespace DL
open PySem PySem.Spec PyProof.Rows L2
/-! ### a, b, c = a list -/
def dNamesL (is : List Nat) : DG := fun d σ G R => match d with | .lst ds => ds.length = is.length ∧ R (setAll σ is ds) G | _ => False
theorem tg_namesL {K : PySem.W.Frag} {ws is : List Nat} {n : Nat} (h : ∀ i ∈ is, i ∈ ws) (hn : is.length = n) : TgOk K (gUnl K n (gNames is)) (dNamesL is) ws := fun d v σ τ H N G R Q rd rs rg h0 q => by
  unfold dNamesL at h0
  split at h0
  · rename_i ds
    obtain ⟨p, vs, rfl, sq, r⟩ := rd.of_lst
    have hl := r.length
    refine ⟨p, vs, rfl, sq.sq, by omega, gNames_ok (by omega) ?_⟩
    exact q _ _ h0.2 (RSt.setAll is rs r) (wipe_setAll h)
  · exact h0.elim
theorem x_namesL {is : List Nat} {ds : List D} {σ : Sd} {G : Gp} {Rg : Sd → Gp → Prop} : dNamesL is (.lst ds) σ G Rg = (ds.length = is.length ∧ Rg (setAll σ is ds) G) := rfl
end DL

set_option Elab.async false
set_option linter.all false
set_option maxRecDepth 100000
set_option maxHeartbeats 4000000
set_option autoImplicit false
namespace DL
open PySem PySem.Spec PyProof.Rows L2
/-! ### dicts of typed keys: laws -/
section
variable {α : Type} [DecidableEq α]
variable {d : α → D} (heq : ∀ a b, eqD (d a) (d b) = decide (a = b))
include heq
variable {w : World} {G : Gp} {a : Addr} {l : List (α × Int)} {k : α}
end
/-! ### bits -/
end DL

set_option Elab.async false
set_option linter.all false
set_option maxRecDepth 100000
set_option maxHeartbeats 4000000
set_option autoImplicit false
namespace DL
open PySem PySem.Spec PyProof.Rows L2
/-! ### enumerate of a tuple -/
section
variable {prog : Program} {w : World} {A : Around} {E : Value → Shared → Prop} {s : Shared}
end
section
variable {X : Cx}
end
end DL

set_option Elab.async false
set_option linter.all false
set_option maxRecDepth 100000
set_option maxHeartbeats 4000000
set_option autoImplicit false
namespace DL
open PySem PySem.Spec PyProof.Rows L2
/-! ### a list times an int -/
theorem RDs.rep {K : PySem.W.Frag} {H : Hp} {N : Ns} {ds : List D} {vs : List V} (r : RDs K H N ds vs) : ∀ n : Nat, RDs K H N (List.replicate n ds).flatten (List.replicate n vs).flatten
  | 0 => by simpa using RDs.nil
  | n + 1 => by
    rw [List.replicate_succ, List.replicate_succ, List.flatten_cons, List.flatten_cons]
    exact RDs.append r (RDs.rep r n)
variable {X : Cx}
def dRep (mk : Bool) : DR2 := fun x y G R => match x, y with
  | .ref a, .int k => (match G a with | some (.lst ds) => 0 ≤ k ∧ k < 1000 ∧ ds.length * k.toNat ≤ sizeLine ∧ newL mk (List.replicate k.toNat ds).flatten G R | _ => False)
  | _, _ => False
theorem od_rep (mk : Bool) : OpD X (binaryOp .Mult) (dRep mk) := opr_mono op_rep fun x y H Q h => by
  obtain ⟨c, d, G, N, R, r1, r2, rg, h, q⟩ := h
  unfold dRep at h
  split at h
  · rename_i a k
    obtain rfl := r1.of_ref
    obtain rfl := r2.of_int
    split at h
    · rename_i ds ea
      obtain ⟨h1, h2, h3, h4⟩ := h
      obtain ⟨_, vs, hv, r⟩ := rg a _ ea
      have hl := r.length
      exact ⟨a, k, vs, rfl, rfl, hv, by omega, by omega, by rw [← hl]; exact h3, fun p np => newL_ok rg (r.rep k.toNat) h4 q np⟩
    · exact h.elim
  · exact h.elim
theorem rep_go {mk : Bool} {a : Addr} {k : Int} {ds : List D} {G : Gp} {R : DK} (e : G a = some (.lst ds)) (h1 : 0 ≤ k) (h2 : k < 1000) (h3 : ds.length * k.toNat ≤ sizeLine) (q : newL mk (List.replicate k.toNat ds).flatten G R) : dRep mk (.ref a) (.int k) G R := by
  unfold dRep
  simp only [e]
  exact ⟨h1, h2, h3, q⟩
end DL

set_option Elab.async false
set_option linter.all false
set_option maxRecDepth 100000
set_option maxHeartbeats 4000000
set_option autoImplicit false
namespace DL
open PySem PySem.Spec PyProof.Rows L2
/-! ### >= of data -/
variable {X : Cx}
end DL

set_option Elab.async false
set_option linter.all false
set_option maxRecDepth 100000
set_option maxHeartbeats 4000000
set_option autoImplicit false
namespace DL
open PySem PySem.Spec PyProof.Rows L2
/-! ### split, int of a text, statements that are never reached -/
variable {X : Cx}
def dSplit (mk : Bool) : D → List D → Gp → DK → Prop := fun x xs G R => match x, xs with
  | .str a, [.str b] => (b.length == 0) = false ∧ a.length + 2 ≤ sizeLine ∧ newL mk ((Txt.split a b).map .str) G R
  | _, _ => False
theorem md_split (mk : Bool) : MtD X "str.split" (dSplit mk) := md_of mt_split fun c cs G N R x xs H Q r0 r1 rg h q => by
  unfold dSplit at h
  split at h
  · rename_i a b
    obtain rfl := r0.of_str
    obtain ⟨v, r, rfl, r2, r3⟩ := r1.of_cons
    obtain rfl := r3.of_nil
    obtain rfl := r2.of_str
    exact ⟨a, b, rfl, rfl, h.1, h.2.1, fun p np => newL_ok rg (RDs.strs _) h.2.2 q np⟩
  · exact h.elim
def dIntS : DRn := fun cs G R => match cs with
  | [.str z] => (match PySem.intText? z with | some n => z.length ≤ 640 ∧ R (.int n) G | none => False)
  | _ => False
theorem cd_intS : CallD X (.type "int") dIntS := up_rn call_int_str fun cs G N R xs H Q rd rg h q => by
  unfold dIntS at h
  split at h
  · rename_i z
    obtain ⟨v, r, rfl, r1, r2⟩ := rd.of_cons
    rw [r2.of_nil, r1.of_str]
    split at h
    · rename_i n e
      exact ⟨z, n, rfl, e, h.1, q.at rg h.2 (RD.int _)⟩
    · exact h.elim
  · exact h.elim
theorem intS_go {z : Str} {n : Int} {G : Gp} {R : DK} (e : PySem.intText? z = some n) (hl : z.length ≤ 640) (k : R (.int n) G) : dIntS [.str z] G R := by
  unfold dIntS
  simp only [e]
  exact ⟨hl, k⟩
theorem split_go {a b : Str} {zs : List Str} {G : Gp} {R : DK} (e : Txt.split a b = zs) (hb : (b.length == 0) = false) (hl : a.length ≤ 1000000) (k : R (.lst (zs.map .str)) G) : dSplit false (.str a) [.str b] G R := by
  refine ⟨hb, ?_, by rw [e]; exact k⟩
  have : (1000002 : Nat) ≤ sizeLine := by decide
  omega
/-! ### texts taken apart -/
theorem split_one (zs : List Str) (hne : zs ≠ []) (h : ∀ z ∈ zs, 32 ∉ cds z) : Txt.split (Txt.join " " zs) " " = zs := by
  refine TL.map_tl_inj ?_
  have e := TL.split_spl (Txt.join " " zs) " " (by decide +kernel) (TL.kind_ok (by decide +kernel))
  rw [e]
  have e2 : TL.tl (Txt.join " " zs) = TL.joinL (TL.tl " ") (zs.map TL.tl) := by
    rw [show Txt.join (" " : Str) zs = Str.join " " zs from PySem.StrLaws.glued_eq_join _ zs]
    exact TL.tl_join " " zs
  rw [e2]
  have e3 : TL.tl (" " : Str) = [32] := by decide +kernel
  rw [e3]
  refine TL.spl_join (by simpa using hne) fun p hp => ?_
  obtain ⟨z, hz, rfl⟩ := List.mem_map.mp hp
  exact h z hz
end DL

set_option Elab.async false
set_option linter.all false
set_option maxRecDepth 100000
set_option maxHeartbeats 4000000
set_option autoImplicit false
namespace DL
open PySem PySem.Spec PyProof.Rows L2
/-! ### a list's slice with a step -/
def stepL {α : Type} (xs : List α) (lo hi st : Option Int) : List α := (sliceRange (sliceBounds lo hi st xs.length).1 (sliceBounds lo hi st xs.length).2.1 (sliceBounds lo hi st xs.length).2.2).filterMap (xs[·]?)
theorem RDs.pick {K : PySem.W.Frag} {H : Hp} {N : Ns} {ds : List D} {vs : List V} (r : RDs K H N ds vs) : ∀ is : List Nat, RDs K H N (is.filterMap (ds[·]?)) (is.filterMap (vs[·]?))
  | [] => RDs.nil
  | i :: is => by
    rw [List.filterMap_cons, List.filterMap_cons]
    have ih := RDs.pick r is
    cases e : ds[i]? with
    | some d =>
      obtain ⟨v, hv, rv⟩ := r.get e
      rw [hv]
      exact RDs.cons rv ih
    | none =>
      have : vs[i]? = none := by rw [List.getElem?_eq_none_iff] at e ⊢; rw [← r.length]; exact e
      rw [this]
      exact ih
theorem vals_pick {vs : List V} {us : List Value} (r : Vals vs us) : ∀ is : List Nat, Vals (is.filterMap (vs[·]?)) (is.filterMap (us[·]?))
  | [] => .nil
  | i :: is => by
    rw [List.filterMap_cons, List.filterMap_cons]
    have ih := vals_pick r is
    cases e : vs[i]? with
    | some d =>
      obtain ⟨v, hv, rv⟩ := r.get e
      rw [hv]
      exact .cons rv ih
    | none =>
      have : us[i]? = none := by rw [List.getElem?_eq_none_iff] at e ⊢; rw [← r.length]; exact e
      rw [this]
      exact ih
section
variable {X : Cx} {e : Expr} {lo hi st : Option Expr} {p3 pos : Pos}
def tStep (K : PySem.W.Frag) (te : TE) (tl th ts : TO) : TE := fun σ H Q => te σ H fun x H1 => tl σ H1 fun l H2 => th σ H2 fun u H3 => ts σ H3 fun k H4 => ∃ a xs, x = .ref a ∧ SqL K H4 a xs ∧ k ≠ some 0 ∧ (stepL xs l u k).length ≤ sizeLine ∧ ∀ p, H4 p = none → Q (.ref p) (upd H4 p (.lst (stepL xs l u k)))
theorem pe_step {te : TE} {tl th ts : TO} (he : PE X e te) (hl : PO X lo tl) (hh : PO X hi th) (hs : PO X st ts) (hn : NoSl (.Slice lo hi st p3)) : PE X (.Subscript e (.Slice lo hi st p3) pos) (tStep X.K te tl th ts) := by
  refine ⟨fun pins s σ H Q I h => ?_⟩
  refine Subscript_ (thn (he.run pins s σ H _ I h) fun v s1 ⟨x, H1, I1, r1, q1⟩ => ?_)
  refine wpAny_Slice (thn (hl.run pins s1 σ H1 _ I1 q1) fun vl s2 ⟨l, H2, I2, pl, q2⟩ => thn (hh.run pins s2 σ H2 _ I2 q2) fun vu s3 ⟨u, H3, I3, pu, q3⟩ => thn (hs.run pins s3 σ H3 _ I3 q3) fun vs s4 ⟨k, H4, I4, ps, q4⟩ => ?_)
  obtain ⟨a, xs, ex, hx, hk, hz2, q⟩ := q4
  subst ex
  obtain rfl : v = Value.ref a := r1
  have I5 : Inv X pins σ H4 { s4 with heap := s4.heap.push { cls := .type "slice", data := .fields #[vl, vu, vs] } } := I4.kept (t' := s4.toks) fun b ob q => Heap.get?_push_of_some _ q
  obtain ⟨its, r, ht, hz⟩ := I5.list hx
  have hlen := r.length
  refine tail_any ht.isList.typeIs PySem.slot_list_getitem.lookup ?_ (hn _ _)
  refine wpAny_getItem_list_slice ht.isList (Heap.IsSliceOf.new _ vl vu vs) pl pu ps hk ?_ (by rw [List.size_toArray]; omega)
  have e1 : slicePick its.toArray l u k = ((sliceRange (sliceBounds l u k xs.length).1 (sliceBounds l u k xs.length).2.1 (sliceBounds l u k xs.length).2.2).filterMap (its[·]?)).toArray := by
    unfold slicePick
    rw [List.size_toArray, ← hlen]
    simp only [List.getElem?_toArray]
  rw [e1]
  refine ⟨.ref _, _, I5.laid (t' := s4.toks) (o := .lst (stepL xs l u k)) (fun b ob q => Heap.get?_push_of_some _ q) (Nat.le_refl _) ?_, rfl, q _ (I5.hok.fresh (Nat.le_refl _))⟩
  exact ⟨hz2, _, 0, vals_pick r _, Heap.get?_push_size _ rfl⟩
def dStep (mk : Bool) (te : DE) (tl th ts : DO) : DE := fun σ G R => te σ G fun x G1 => tl σ G1 fun l G2 => th σ G2 fun u G3 => ts σ G3 fun k G4 => match lstOf G4 x with | some ds => k ≠ some 0 ∧ (stepL ds l u k).length ≤ sizeLine ∧ newL mk (stepL ds l u k) G4 R | none => False
theorem qe_step (mk : Bool) {te : DE} {tl th ts : DO} (he : QE X e te) (hl : QO X lo tl) (hh : QO X hi th) (hst : QO X st ts) (hn : NoSl (.Slice lo hi st p3)) : QE X (.Subscript e (.Slice lo hi st p3) pos) (dStep mk te tl th ts) :=
  pe_mono (pe_step he hl hh hst hn) fun τ H Q h => by
    obtain ⟨σ, G, N, R, hs, hg, ht, q⟩ := h
    refine ⟨σ, G, N, _, hs, hg, ht, fun d G1 N1 v1 H1 h1 s1 r1 => ?_⟩
    refine ⟨σ, G1, N1, _, hs.le s1.kp, s1.rel, h1, fun l G2 N2 H2 h2 s2 => ?_⟩
    refine ⟨σ, G2, N2, _, (hs.le s1.kp).le s2.kp, s2.rel, h2, fun u G3 N3 H3 h3 s3 => ?_⟩
    refine ⟨σ, G3, N3, _, ((hs.le s1.kp).le s2.kp).le s3.kp, s3.rel, h3, fun k G4 N4 H4 h4 s4 => ?_⟩
    have s14 := ((s1.trans s2).trans s3).trans s4
    have r4 := ((r1.le s2.kp).le s3.kp).le s4.kp
    split at h4
    · rename_i ds ed
      obtain ⟨p, vs, rfl, sq, r⟩ := lstOf_ok s4.rel r4 ed
      have hlen := r.length
      have eq : stepL vs l u k = (sliceRange (sliceBounds l u k ds.length).1 (sliceBounds l u k ds.length).2.1 (sliceBounds l u k ds.length).2.2).filterMap (vs[·]?) := by unfold stepL; rw [hlen]
      have rp : RDs X.K H4 N4 (stepL ds l u k) (stepL vs l u k) := by rw [eq]; exact RDs.pick r _
      exact ⟨p, vs, rfl, sq, h4.1, by rw [← rp.length]; exact h4.2.1, fun p np => newL_ok s4.rel rp h4.2.2 (q.le s14) np⟩
    · exact h4.elim
/-- xs.extend(ys), both known -/
def dExtend : D → List D → Gp → DK → Prop := fun x xs G R => match x, xs with
  | .ref a, [.ref b] => (match G a, G b with | some (.lst ds), some (.lst es) => ds.length + es.length ≤ sizeLine ∧ R .non (gup G a (.lst (ds ++ es))) | _, _ => False)
  | _, _ => False
theorem md_extend : MtD X "list.extend" dExtend := md_of (rv := rExtend) (fun pins s σ H x xs v us Q I rx rxs q => mt_extend pins s σ H x xs v us Q I rx rxs q) fun c cs G N R x xs H Q r0 r1 rg h q => by
  unfold dExtend at h
  split at h
  · rename_i a b
    obtain rfl := r0.of_ref
    obtain ⟨v, r, rfl, rv, rr⟩ := r1.of_cons
    rw [rr.of_nil, rv.of_ref]
    split at h
    · rename_i ds es ea eb
      obtain ⟨_, vs, hv, rd⟩ := rg a _ ea
      obtain ⟨_, us, hu, re⟩ := rg b _ eb
      have h1 := rd.length
      have h2 := re.length
      exact ⟨a, b, vs, us, rfl, rfl, hv, hu, by omega, q.wr rg ea hv (rd.append re) RD.non h.2⟩
    · exact h.elim
  · exact h.elim
theorem x_step {mk : Bool} {te : DE} {tl th ts : DO} {σ : Sd} {G : Gp} {R : DK} : dStep mk te tl th ts σ G R = te σ G fun x G1 => tl σ G1 fun l G2 => th σ G2 fun u G3 => ts σ G3 fun k G4 => match lstOf G4 x with | some ds => k ≠ some 0 ∧ (stepL ds l u k).length ≤ sizeLine ∧ newL mk (stepL ds l u k) G4 R | none => False := rfl
theorem ext_go {a b : Addr} {ds es : List D} {G : Gp} {R : DK} (ea : G a = some (.lst ds)) (eb : G b = some (.lst es)) (hl : ds.length + es.length ≤ sizeLine) (k : R .non (gup G a (.lst (ds ++ es)))) : dExtend (.ref a) [.ref b] G R := by
  unfold dExtend
  simp only [ea, eb]
  exact ⟨hl, k⟩
end
end DL

set_option Elab.async false
set_option linter.all false
set_option maxRecDepth 100000
set_option maxHeartbeats 4000000
set_option autoImplicit false
namespace DL
open PySem PySem.Spec PyProof.Rows L2
/-! ### words for readings that many laws share -/
theorem lc_typ {α : Type} {g : DG} {te : DE} {σ : Sd} {gd : Gp → Prop} {G : Gp} (d f : α → D) (hg : gd G) : ∀ (xs : List α) (acc : List D), (∀ x ∈ xs, ∀ Q : DK, Q (f x) G → g (d x) σ G fun σ2 G2 => te σ2 G2 Q) → ∀ Q : List D → Gp → Prop, Q (acc ++ xs.map f) G → dLcGo g dYes te gd σ (xs.map d) acc G Q
  | [], acc, _, Q, q => ⟨hg, by simpa using q⟩
  | x :: xs, acc, h, Q, q => ⟨hg, h x List.mem_cons_self _ (lc_typ d f hg xs (acc ++ [f x]) (fun y hy => h y (List.mem_cons_of_mem _ hy)) Q (by simpa using q))⟩
theorem all_typ {α : Type} {g : DG} {te : DE} {σ : Sd} {gd : Gp → Prop} {G : Gp} (d : α → D) (f : α → Bool) (hg : gd G) (xs : List α) (h : ∀ x ∈ xs, ∀ Q : DK, Q (.bl (f x)) G → g (d x) σ G fun σ2 G2 => te σ2 G2 Q) {Q : DK} (q : Q (.bl (xs.all f)) G) : dLcGo g dYes te gd σ (xs.map d) [] G fun ds G2 => dAll [.lst ds] G2 Q := by
  refine lc_typ d (fun x => .bl (f x)) hg xs [] h _ ?_
  have e : [] ++ xs.map (fun x => D.bl (f x)) = (xs.map f).map D.bl := by simp
  rw [e, all_lst, List.all_map]
  exact q
theorem lc_flt {α : Type} {g : DG} {tt : DT} {te : DE} {σ : Sd} {gd : Gp → Prop} {G : Gp} (d : α → D) (p : α → Option D) (hg : gd G) : ∀ (xs : List α) (acc : List D), (∀ x ∈ xs, ∀ (N : List D → Gp → Prop) (acc : List D), N (acc ++ (p x).toList) G → g (d x) σ G fun σ2 G2 => tt σ2 G2 fun b G3 => match b with | true => te σ2 G3 fun y G4 => N (acc ++ [y]) G4 | false => N acc G3) →
    ∀ Q : List D → Gp → Prop, Q (acc ++ xs.filterMap p) G → dLcGo g tt te gd σ (xs.map d) acc G Q
  | [], acc, _, Q, q => ⟨hg, by simpa using q⟩
  | x :: xs, acc, h, Q, q => by
    refine ⟨hg, h x List.mem_cons_self (fun acc' G' => dLcGo g tt te gd σ (xs.map d) acc' G' Q) acc (lc_flt d p hg xs _ (fun y hy => h y (List.mem_cons_of_mem _ hy)) Q ?_)⟩
    cases e : p x with
    | none => simpa [List.filterMap_cons, e] using q
    | some y => simpa [List.filterMap_cons, e] using q
theorem py_str {z : Str} : pyD (.str z) = true ↔ ∀ c ∈ cds z, c < 1114112 := by
  simp only [pyD, List.all_eq_true, decide_eq_true_eq, cds]
theorem py_of (s : String) : pyD (.str (Str.ofString s)) = true := by
  rw [py_str]
  intro c hc
  rw [Str.ofString_eq_toList] at hc
  have hc : c ∈ s.toList.map Char.toNat := by simpa [cds] using hc
  rw [List.mem_map] at hc
  obtain ⟨x, _, rfl⟩ := hc
  have := x.valid
  unfold Char.toNat
  simp only [UInt32.isValidChar, Nat.isValidChar] at this
  show x.val.toNat < 1114112
  omega
theorem py_app {a b : Str} (h1 : pyD (.str a) = true) (h2 : pyD (.str b) = true) : pyD (.str (a ++ b)) = true := by
  rw [py_str] at *
  rw [cds_app]
  intro c hc
  rcases List.mem_append.mp hc with hc | hc
  · exact h1 c hc
  · exact h2 c hc
theorem py_join {sep : Str} (h : pyD (.str sep) = true) : ∀ {zs : List Str}, (∀ z ∈ zs, pyD (.str z) = true) → pyD (.str (Txt.join sep zs)) = true := by
  intro zs hz
  rw [py_str, cds_join]
  intro c hc
  obtain ⟨l, hl, hc⟩ := List.mem_flatten.mp hc
  have key : ∀ (ls : List (List Nat)) (s l : List Nat), l ∈ ls.intersperse s → l = s ∨ l ∈ ls := by
    intro ls s l
    induction ls with
    | nil => intro h; cases h
    | cons a ls ih =>
      cases ls with
      | nil => intro h; exact .inr (by simpa using h)
      | cons b ls =>
        intro h
        rw [List.intersperse_cons₂] at h
        rcases List.mem_cons.mp h with h | h
        · exact .inr (by simp [h])
        · rcases List.mem_cons.mp h with h | h
          · exact .inl h
          · rcases ih h with h | h
            · exact .inl h
            · exact .inr (List.mem_cons_of_mem _ h)
  rcases key _ _ _ hl with rfl | hl
  · exact py_str.mp h c hc
  · obtain ⟨z, hz2, rfl⟩ := List.mem_map.mp hl
    exact py_str.mp (hz z hz2) c hc
end DL

set_option Elab.async false
set_option linter.all false
set_option maxRecDepth 100000
set_option maxHeartbeats 4000000
set_option autoImplicit false
namespace DL
open PySem PySem.Spec PyProof.Rows L2
/-! ### list(range(n)), tuple(range(n)) -/
section
variable {X : Cx} {a : Expr} {ta : DE} {p p2 pos pos2 : Pos}
end
/-! ### d.get(k, e) of a dict of nested keys -/
section
variable {X : Cx}
variable {o e : Expr} {es : List Expr} {to : DE} {t : DA} {name : Str} {apos cpos : Pos} {id : String} {r : D → List D → Gp → DK → Prop}
end
/-! ### dicts of typed keys and typed values -/
section
variable {α β : Type} [DecidableEq α]
variable {d : α → D} {v : β → D} (heq : ∀ a b, eqD (d a) (d b) = decide (a = b))
include heq
variable {w : World} {G : Gp} {a : Addr} {l : List (α × β)} {k : α}
end
end DL

set_option Elab.async false
set_option linter.all false
set_option maxRecDepth 100000
set_option maxHeartbeats 4000000
set_option autoImplicit false
namespace DL
open PySem PySem.Spec PyProof.Rows L2
/-! ### sum, max, min of a list of ints -/
section
variable {X : Cx}
end
theorem inon_n : isNon .non = true := rfl
theorem inon_i {i : Int} : isNon (.int i) = false := rfl
theorem inon_s {i : Str} : isNon (.str i) = false := rfl
theorem inon_b {i : Bool} : isNon (.bl i) = false := rfl
theorem inon_t {i : List D} : isNon (.tup i) = false := rfl
theorem inon_l {i : List D} : isNon (.lst i) = false := rfl
theorem inon_r {i : Addr} : isNon (.ref i) = false := rfl
/-- a loop over typed things, by an invariant that tells how many are done -/
theorem for_typ {α : Type} {g : DG} {tb : DS} {gd : Gp → Prop} {E : DEnds} (d : α → D) (xs : List α) (I : Nat → Sd → Gp → Prop) (hgd : ∀ k σ G, I k σ G → gd G)
    (turn : ∀ (k : Nat) (x : α) (σ : Sd) (G : Gp), xs[k]? = some x → I k σ G → ∀ N : Sd → Gp → Prop, (∀ σ' G', I (k + 1) σ' G' → N σ' G') → g (d x) σ G fun σ2 G2 => tb { E with nx := N, ct := N, bk := E.nx } σ2 G2)
    (fin : ∀ σ G, I xs.length σ G → E.nx σ G) (σ : Sd) (G : Gp) (h : I 0 σ G) : dForGo g tb gd E (xs.map d) σ G := by
  have key : ∀ (m k : Nat) (σ : Sd) (G : Gp), xs.length - k = m → k ≤ xs.length → I k σ G → dForGo g tb gd E ((xs.drop k).map d) σ G := by
    intro m
    induction m with
    | zero =>
      intro k σ G hm hk i
      have e : k = xs.length := by omega
      subst e
      rw [List.drop_length]
      exact ⟨hgd _ _ _ i, fin σ G i⟩
    | succ m ih =>
      intro k σ G hm hk i
      have hlt : k < xs.length := by omega
      rw [List.drop_eq_getElem_cons hlt, List.map_cons]
      exact ⟨hgd _ _ _ i, turn k xs[k] σ G (List.getElem?_eq_getElem hlt) i _ fun σ' G' i' => ih (k + 1) σ' G' (by omega) (by omega) i'⟩
  have := key xs.length 0 σ G (by omega) (by omega) h
  rwa [List.drop_zero] at this
theorem for_rng {g : DG} {tb : DS} {E : DEnds} (n : Nat) (I : Nat → Sd → Gp → Prop)
    (turn : ∀ (k : Nat) (σ : Sd) (G : Gp), k < n → I k σ G → ∀ N : Sd → Gp → Prop, (∀ σ' G', I (k + 1) σ' G' → N σ' G') → g (.int (k : Nat)) σ G fun σ2 G2 => tb { E with nx := N, ct := N, bk := E.nx } σ2 G2)
    (fin : ∀ σ G, I n σ G → E.nx σ G) (σ : Sd) (G : Gp) (h : I 0 σ G) : dForGo g tb (fun _ => True) E (rng 0 n) σ G := by
  have e : rng 0 n = (List.range n).map fun i => D.int (i : Nat) := by unfold rng; exact List.map_congr_left fun i _ => by rw [Int.zero_add]
  rw [e]
  refine for_typ (fun i : Nat => D.int (i : Nat)) (List.range n) I (fun _ _ _ _ => trivial) (fun k x σ G hx i N hN => ?_) (fun σ G i => fin σ G (by rw [List.length_range] at i; exact i)) σ G h
  have hk := (List.getElem?_eq_some_iff.mp hx).1
  rw [List.length_range] at hk
  rw [List.getElem?_range hk] at hx
  cases hx
  exact turn k σ G hk i N hN
theorem setN_go {p : Addr} {ds : List D} {k : Nat} {v : D} {G : Gp} {R : Gp → Prop} (e : G p = some (.lst ds)) (h : k < ds.length) (q : R (gup G p (.lst (ds.set k v)))) : dSetI (.ref p) (.int (k : Nat)) v G R := by
  have hix : ixN ds.length (k : Nat) = some k := by unfold ixN; rw [if_pos (by omega), if_pos (by omega)]; simp
  unfold dSetI
  simp only [e, hix]
  exact q
theorem rt_sub {R : DK} {d : D} {G G0 : Gp} (s : Sub G0 G) (h : R d G0) : Rt R d G := ret_sub s h
theorem Sub.put {G G' : Gp} {p : Addr} {o : GO} (s : Sub G G') (h : G p = none) : Sub G (gup G' p o) := fun a u e => by rw [gup_ne (gne e h)]; exact s a u e
end DL

set_option Elab.async false
set_option linter.all false
set_option maxRecDepth 100000
set_option maxHeartbeats 4000000
set_option autoImplicit false
namespace DL
open PySem PySem.Spec PyProof.Rows L2
/-! ### lists that are known, added -/
end DL

set_option Elab.async false
set_option linter.all false
set_option maxRecDepth 100000
set_option maxHeartbeats 4000000
set_option autoImplicit false
namespace DL
open PySem PySem.Spec PyProof.Rows L2
theorem rt_keep {R : DK} {d : D} {G : Gp} {s p : Addr} {o u : GO} (h : s ≠ p) (hp : G p = none) (k : R d (gup G s o)) : Rt R d (gup (gup G p u) s o) := ret_sub (sub_keep h hp) k
/-! ### {..}.get(e, f) -/
section
variable {X : Cx} {pos : Pos} {keys : List (Option Expr)} {values : List Expr}
end
end DL

set_option Elab.async false
set_option linter.all false
set_option maxRecDepth 100000
set_option maxHeartbeats 4000000
set_option autoImplicit false
namespace DL
open PySem PySem.Spec PyProof.Rows L2
/-! ### a, b = x, y and a, b, c = x, y, z -/
section
variable {X : Cx} {pos : Pos}
def dPar (is : List Nat) (t : DA) : DS := fun E σ G => t σ G fun ds G1 => ds.length = is.length ∧ E.nx (setAll σ is ds) G1
theorem x_par {is : List Nat} {t : DA} {E : DEnds} {σ : Sd} {G : Gp} : dPar is t E σ G = t σ G fun ds G1 => ds.length = is.length ∧ E.nx (setAll σ is ds) G1 := rfl
end
end DL

set_option Elab.async false
set_option linter.all false
set_option maxRecDepth 100000
set_option maxHeartbeats 4000000
set_option autoImplicit false
namespace DL
open PySem PySem.Spec PyProof.Rows L2
/-! ### all that was known is known still, but for one thing -/
def Ext (s : Addr) (G G' : Gp) : Prop := ∀ a o, a ≠ s → G a = some o → G' a = some o
section
variable {s p : Addr} {G G' : Gp} {o u : GO} {R : DK} {d : D}
theorem Ext.refl (s : Addr) (G : Gp) : Ext s G G := fun _ _ _ h => h
theorem Ext.self (h : Ext s G G') : Ext s G (gup G' s o) := fun a u n e => by rw [gup_ne n]; exact h a u n e
theorem Ext.put (h : Ext s G G') (hp : G p = none) : Ext s G (gup G' p o) := fun a u n e => by rw [gup_ne (gne e hp)]; exact h a u n e
theorem Ext.new (h : Ext s G G') (hp : G' p = none) (hs : s ≠ p) : Ext s G (gup G' p o) := fun a u n e => by
  have := h a u n e
  rw [gup_ne (fun z => by rw [z, hp] at this; cases this)]; exact this
theorem Ext.sub (h : Ext s G G') (e : G' s = some o) : Sub (gup G s o) G' := fun a u ea => by
  by_cases z : a = s
  · subst z; rw [gup_same] at ea; cases ea; exact e
  · rw [gup_ne z] at ea; exact h a u z ea
theorem Ext.nn (h : Ext s G G') (n : p ≠ s) (hp : G' p = none) : G p = none := by
  cases e : G p with
  | none => rfl
  | some u => rw [h p u n e] at hp; cases hp
end
end DL

set_option Elab.async false
set_option linter.all false
set_option maxRecDepth 100000
set_option maxHeartbeats 4000000
set_option autoImplicit false
namespace DL
open PySem PySem.Spec PyProof.Rows L2
/-! ### loops over enumerate, by an invariant that tells how many are done -/
end DL

set_option Elab.async false
set_option linter.all false
set_option maxRecDepth 100000
set_option maxHeartbeats 4000000
set_option autoImplicit false
namespace DL
open PySem PySem.Spec PyProof.Rows L2
/-! ### is, is not of truths -/
section
variable {X : Cx}
end
theorem cut_take {α : Type} (l : List α) (a : Nat) : cutL l none (some (a : Int)) = l.take a := by
  unfold cutL
  rw [HT.sIx_nat]
  simp only [HT.sIx, List.drop_zero, Nat.sub_zero]
  by_cases h : a ≤ l.length
  · rw [Nat.min_eq_left h]
  · rw [Nat.min_eq_right (by omega), List.take_of_length_le (Nat.le_refl _), List.take_of_length_le (by omega)]
theorem cut_drop {α : Type} (l : List α) (a : Nat) : cutL l (some (a : Int)) none = l.drop a := by
  unfold cutL
  rw [HT.sIx_nat]
  simp only [HT.sIx]
  by_cases h : a ≤ l.length
  · rw [Nat.min_eq_left h]
    exact List.take_of_length_le (by rw [List.length_drop]; exact Nat.le_refl _)
  · rw [Nat.min_eq_right (by omega), List.drop_length, List.drop_eq_nil_of_le (by omega)]; simp
end DL

set_option Elab.async false
set_option linter.all false
set_option maxRecDepth 100000
set_option maxHeartbeats 4000000
set_option autoImplicit false
namespace DL
open PySem PySem.Spec PyProof.Rows L2
section
variable {X : Cx}
/-! ### max of three, max with a default -/
end
end DL

set_option Elab.async false
set_option linter.all false
set_option maxRecDepth 100000
set_option maxHeartbeats 4000000
set_option autoImplicit false
namespace DL
open PySem PySem.Spec PyProof.Rows L2
/-! ### instances: attributes, methods, making -/
section
variable {X : Cx} {C : Addr} {f m : Str} {e o value : Expr} {es : List Expr} {pos pos' apos p : Pos} {ta tv : DE} {t : DA} {x : Str} {k : Nat} {g : Addr} {fd : FuncData} {ps : List Str} {sp : DSp}
end
end DL

set_option Elab.async false
set_option linter.all false
set_option maxRecDepth 100000
set_option maxHeartbeats 4000000
set_option autoImplicit false
namespace DL
open PySem PySem.Spec PyProof.Rows L2
/-! ### list(it): what an iterator gives, laid in a new list -/
section
variable {X : Cx} {pins : List (Addr × Obj)} {σ : L2.St} {H : Hp}
/-- an address of ours -/
structure Yg (X : Cx) (pins : List (Addr × Obj)) (b : Addr) : Prop where
  l : b ≠ X.env.locals
  f : b ∉ X.fs
  y : b ∈ X.ex ∨ X.s_0.heap.objs.size ≤ b
  c : ∀ x c, X.env.cells.lookup x = some c → c ≠ b
  p : ∀ p ∈ X.pn ++ pins, p.1 ≠ b
theorem Yg.fp {b : Addr} {H : Hp} (h : Yg X pins b) (n : H b = none) : FpOk X pins H b := ⟨n, h.l, h.f, h.y, h.c, h.p⟩
theorem Yg.cons {b S : Addr} {o : Obj} (h : Yg X pins b) (n : S ≠ b) : Yg X ((S, o) :: pins) b := ⟨h.l, h.f, h.y, h.c, fun p hp => by
  rcases List.mem_append.mp hp with hp | hp
  · exact h.p p (List.mem_append_left _ hp)
  · rcases List.mem_cons.mp hp with rfl | hp
    · exact n
    · exact h.p p (List.mem_append_right _ hp)⟩
/-! ### enumerate of a list -/
variable {a : Expr} {p p2 pos pos2 : Pos}
end
end DL

set_option Elab.async false
set_option linter.all false
set_option maxRecDepth 100000
set_option maxHeartbeats 4000000
set_option autoImplicit false
namespace DL
open PySem PySem.Spec PyProof.Rows L2
/-! ### dicts with texts and numbers as keys, kept -/
section
variable {X : Cx} {pos : Pos} {keys : List (Option Expr)} {values : List Expr}
end
end DL

set_option Elab.async false
set_option linter.all false
set_option maxRecDepth 100000
set_option maxHeartbeats 4000000
set_option autoImplicit false
namespace DL
open PySem PySem.Spec PyProof.Rows L2
/-! ### sum(list, ()) of one tuple at most -/
section
variable {prog : Program} {w : World} {A : Around} {E : Value → Shared → Prop} {s : Shared}
end
section
variable {X : Cx}
end
end DL

set_option Elab.async false
set_option linter.all false
set_option maxRecDepth 100000
set_option maxHeartbeats 4000000
set_option autoImplicit false
namespace DL
open PySem PySem.Spec PyProof.Rows L2
/-! ### sorted(xs) of tuples (number, text, more), told apart by the number and the text -/
section
variable {prog : Program} {w : World} {A : Around} {s : Shared}
end
section
variable {X : Cx} {k : Nat}
end
/-! by data -/
end DL

set_option Elab.async false
set_option linter.all false
set_option maxRecDepth 100000
set_option maxHeartbeats 4000000
set_option autoImplicit false
namespace DL
open PySem PySem.Spec PyProof.Rows L2
/-! ### {k: v}, a dict with a nested key -/
section
variable {X : Cx} {pos : Pos}
end
end DL

set_option Elab.async false
set_option linter.all false
set_option maxRecDepth 100000
set_option maxHeartbeats 4000000
set_option autoImplicit false
namespace DL
/-! ### rows of numbers that hold: the plain law -/
theorem nodup_filter {α : Type} {l : List α} (p : α → Bool) (h : l.Nodup) : (l.filter p).Nodup := h.sublist List.filter_sublist
structure Sys where
  B : Nat → Nat → Bool
  L : Nat → Nat → Bool
  F : List Nat → Bool
  Blt : ∀ k o, B k o = true → o < k
  Llt : ∀ k o, L k o = true → o < k
  Fsub : ∀ a b, a.Sublist b → F b = true → F a = true
  Fperm : ∀ a b, a.Perm b → F a = F b
  F1 : ∀ k, F [k] = true
def restN (left row : List Nat) : List Nat := left.filter fun k => decide (k ∉ row)
variable (S : Sys)
/-- a first row of what is left -/
structure FR (left row : List Nat) : Prop where
  sub : row.Sublist left
  beh : ∀ k ∈ row, ∀ o ∈ left, S.B k o = false
  lev : ∀ k ∈ row, ∀ o ∈ left, S.L k o = true → o ∈ row
  fit : S.F row = true
def canJ (left row : List Nat) (k : Nat) : Prop := (∀ o ∈ left, S.L k o = true → o ∈ row) ∧ S.F (row ++ [k]) = true
def readyP (left : List Nat) (k : Nat) : Prop := k ∈ left ∧ ∀ o ∈ left, S.B k o = false
variable {S}
/-- one order more in a first row -/
def insN (left row : List Nat) (k : Nat) : List Nat := left.filter fun j => decide (j ∈ row ∨ j = k)
theorem mem_insN {left row : List Nat} {k j : Nat} : j ∈ insN left row k ↔ j ∈ left ∧ (j ∈ row ∨ j = k) := by
  unfold insN
  rw [List.mem_filter]
  simp
theorem insN_perm {left row : List Nat} {k : Nat} (hn : left.Nodup) (hs : row.Sublist left) (hk : k ∈ left) (hk2 : k ∉ row) : (insN left row k).Perm (row ++ [k]) := by
  have n1 : (insN left row k).Nodup := nodup_filter _ hn
  have n2 : (row ++ [k]).Nodup := by
    rw [List.nodup_append]
    refine ⟨hn.sublist hs, by simp, fun a ha b hb e => ?_⟩
    rw [List.mem_singleton.mp hb] at e
    exact hk2 (e ▸ ha)
  refine (List.perm_ext_iff_of_nodup n1 n2).mpr fun j => ?_
  rw [mem_insN, List.mem_append, List.mem_singleton]
  constructor
  · exact fun h => h.2
  · intro h
    refine ⟨?_, h⟩
    rcases h with h | h
    · exact hs.subset h
    · rw [h]; exact hk
theorem FR.ins {left row : List Nat} {k : Nat} (h : FR S left row) (hn : left.Nodup) (hr : readyP S left k) (hk : k ∉ row) (hc : canJ S left row k) : FR S left (insN left row k) := by
  refine ⟨List.filter_sublist, fun j hj o ho => ?_, fun j hj o ho hl => ?_, ?_⟩
  · rcases (mem_insN.mp hj).2 with c | rfl
    · exact h.beh j c o ho
    · exact hr.2 o ho
  · refine mem_insN.mpr ⟨ho, .inl ?_⟩
    rcases (mem_insN.mp hj).2 with c | rfl
    · exact h.lev j c o ho hl
    · exact hc.1 o ho hl
  · rw [S.Fperm _ _ (insN_perm hn h.sub hr.1 hk)]
    exact hc.2
/-- a way to part what is left into m rows -/
structure Asg (S : Sys) (left : List Nat) (m : Nat) (at_ : Nat → Nat) : Prop where
  lt : ∀ k ∈ left, at_ k < m
  fit : ∀ r, S.F (left.filter fun k => decide (at_ k = r)) = true
  beh : ∀ j ∈ left, ∀ k ∈ left, S.B j k = true → at_ k < at_ j
  lev : ∀ j ∈ left, ∀ k ∈ left, S.L j k = true → at_ k ≤ at_ j
theorem Asg.first {left : List Nat} {m : Nat} {at_ : Nat → Nat} (h : Asg S left m at_) : FR S left (left.filter fun k => decide (at_ k = 0)) := by
  refine ⟨List.filter_sublist, fun k hk o ho => ?_, fun k hk o ho hl => ?_, h.fit 0⟩
  · rw [List.mem_filter, decide_eq_true_iff] at hk
    cases e : S.B k o with
    | false => rfl
    | true => have := h.beh k hk.1 o ho e; omega
  · rw [List.mem_filter, decide_eq_true_iff] at hk
    have := h.lev k hk.1 o ho hl
    exact List.mem_filter.mpr ⟨ho, decide_eq_true (by omega)⟩
/-- rows, one behind the other, that use up what is left -/
def Chn (S : Sys) : List Nat → List (List Nat) → Prop
  | left, [] => left = []
  | left, row :: rows => FR S left row ∧ row ≠ [] ∧ Chn S (restN left row) rows
/-- m rows, and no fewer -/
def IsFew (S : Sys) (left : List Nat) (m : Nat) : Prop := (∃ rows, Chn S left rows ∧ rows.length = m) ∧ ∀ at_ c, Asg S left c at_ → m ≤ c
theorem IsFew.uniq {left : List Nat} {m n : Nat} (hc : ∀ rows, Chn S left rows → ∃ at_, Asg S left rows.length at_) (h : IsFew S left m) (k : IsFew S left n) : m = n := by
  obtain ⟨⟨r1, c1, l1⟩, b1⟩ := h
  obtain ⟨⟨r2, c2, l2⟩, b2⟩ := k
  obtain ⟨a1, g1⟩ := hc _ c1
  obtain ⟨a2, g2⟩ := hc _ c2
  have := b1 _ _ g2
  have := b2 _ _ g1
  omega
end DL

set_option Elab.async false
set_option linter.all false
set_option maxRecDepth 100000
set_option maxHeartbeats 4000000
set_option autoImplicit false
namespace DL
open PySem PySem.Spec PyProof.Rows L2
/-! ### all full first rows, as they are gone through -/
section
variable {S : Sys} {left : List Nat} {c : List Nat → Nat → Bool}
end
/-! ### parts of a list, counted -/
/-! ### dicts with nested keys and any values, typed -/
section
variable {α β : Type} [DecidableEq α]
variable {d : α → D} {v : β → D} (heq : ∀ a b, eqD (d a) (d b) = decide (a = b))
include heq
variable {w : World} {G : Gp} {a : Addr} {l : List (α × β)} {k : α}
end
end DL

set_option Elab.async false
set_option linter.all false
set_option maxRecDepth 100000
set_option maxHeartbeats 4000000
set_option autoImplicit false
namespace DL
open PySem PySem.Spec PyProof.Rows L2
/-! ### a list comprehension whose elements lay new things, by an invariant -/
end DL

set_option Elab.async false
set_option linter.all false
set_option maxRecDepth 100000
set_option maxHeartbeats 4000000
set_option autoImplicit false
namespace DL
open PySem PySem.Spec PyProof.Rows L2
/-! ### the keys of a dict, whatever they are, gone through -/
section
variable {prog : Program} {w : World} {A : Around} {E : Value → Shared → Prop} {s : Shared} {d I : Addr} {o : Obj} {es : Array DictEntry} {ep i : Nat}
end
section
variable {X : Cx}
end
end DL

set_option Elab.async false
set_option linter.all false
set_option maxRecDepth 100000
set_option maxHeartbeats 4000000
set_option autoImplicit false
namespace DL
open PySem PySem.Spec PyProof.Rows L2
/-! ### all first rows, and what may be left behind some -/
/-! ### d[k] = v again -/
section
variable {α β : Type} [DecidableEq α] {d : α → D} {v : β → D} (heq : ∀ a b, eqD (d a) (d b) = decide (a = b))
include heq
variable {w : World} {G : Gp} {a : Addr} {l : List (α × β)} {k : α}
end
end DL

set_option Elab.async false
set_option linter.all false
set_option maxRecDepth 100000
set_option maxHeartbeats 4000000
set_option autoImplicit false
namespace DL
open PySem PySem.Spec PyProof.Rows L2
/-! ### a list that is known, lent to a def that only reads it -/
section
variable {X : Cx} {k : Nat} {f : Addr} {fd : FuncData} {ps : List Str} {sp : DSp} {x : Str} {p pos : Pos} {e : Expr} {es : List Expr} {t : DA}
end
end DL

set_option Elab.async false
set_option linter.all false
set_option maxRecDepth 100000
set_option maxHeartbeats 4000000
set_option autoImplicit false
namespace DL
open PySem PySem.Spec PySem.Calls PyProof.Rows PySem.SeqAt PySem.W L2
/-! ### tuples sorted, the empty one among them -/
section
variable {prog : Program} {w : World} {A : Around} {E : Value → Shared → Prop} {s : Shared}
end
/-! ### sorted(d), the keys of d tuples of numbers -/
section
variable {X : Cx} {k : Nat}
end
/-! by data -/
section
variable {X : Cx} {k : Nat}
end
end DL

set_option Elab.async false
set_option linter.all false
set_option maxRecDepth 100000
set_option maxHeartbeats 4000000
set_option autoImplicit false
namespace DL
open PySem PySem.Spec PyProof.Rows L2
/-! ### d[k] = v and d.get(k, y), whether k is there or not -/
section
variable {α β : Type} [DecidableEq α]
variable {d : α → D} {v : β → D} (heq : ∀ a b, eqD (d a) (d b) = decide (a = b))
include heq
variable {w : World} {G : Gp} {a : Addr} {l : List (α × β)} {k : α}
end
end DL

set_option Elab.async false
set_option linter.all false
set_option maxRecDepth 100000
set_option maxHeartbeats 4000000
set_option autoImplicit false
namespace DL
open PySem PySem.Spec PyProof.Rows L2
/-! ### for k in d -/
/-! ### sorted of a list or tuple of alike things -/
section
variable {X : Cx} {k : Nat}
end
end DL

set_option Elab.async false
set_option linter.all false
set_option maxRecDepth 100000
set_option maxHeartbeats 4000000
set_option autoImplicit false
namespace DL
open PySem PySem.Spec PyProof.Rows L2
/-! ### dict of a list of pairs -/
section
variable {X : Cx} {pins : List (Addr × Obj)} {σ : L2.St} {H : Hp} {s : Shared} {N : Ns} {a : Addr} {kvs : List (D × D)} {kvs' : List (Int × V × V)}
end
/-! typed -/
section
variable {α β : Type} [DecidableEq α] {d : α → D} {v : β → D} (heq : ∀ a b, eqD (d a) (d b) = decide (a = b))
include heq
end
end DL

set_option Elab.async false
set_option linter.all false
set_option maxRecDepth 100000
set_option maxHeartbeats 4000000
set_option autoImplicit false
namespace DL
open PySem PySem.Spec PyProof.Rows L2
/-! ### sorted(xs, key=len), xs tuples -/
section
variable {X : Cx} {k : Nat}
end
/-! by data -/
section
variable {X : Cx} {k : Nat}
end
end DL

set_option Elab.async false
set_option linter.all false
set_option maxRecDepth 100000
set_option maxHeartbeats 4000000
set_option autoImplicit false
namespace DL
open PySem PySem.Spec PyProof.Rows L2
/-! ### ("a", "b"): a tuple of texts of which it is known that it has no dict -/
section
variable {X : Cx} {es : List Expr} {tr : DA} {pos : Pos}
end
end DL

set_option Elab.async false
set_option linter.all false
set_option maxRecDepth 100000
set_option maxHeartbeats 4000000
set_option autoImplicit false
namespace DL
open PySem PySem.Spec PyProof.Rows L2
/-! ### exceptions, by data: a wish tells the class, the fields of its own, the slots, what is known -/
abbrev DXW := Value → List (Str × D) → Sd → Gp → Prop
abbrev DXC := Value → List (Str × D) → Gp → Prop
/-- the dict of an exception's own fields -/
def XdAt (K : PySem.W.Frag) (H : Hp) (N : Ns) (G : Gp) : Option Addr → List (Str × D) → Prop
  | none, fs => fs = []
  | some a, fs => fs ≠ [] ∧ G a = none ∧ ∃ fs', H a = some (.xd fs') ∧ RKV K H N fs fs'
def UpX (K : PySem.W.Frag) (H : Hp) (N : Ns) (G : Gp) (RX : DXW) (W : WX) : Prop := ∀ cls fs σ' G' N' τ' H' d, RX cls fs σ' G' → Stp K H N G H' N' G' → RSt K H' N' σ' τ' → XdAt K H' N' G' d fs → W cls d τ' H'
def UpXC (K : PySem.W.Frag) (H : Hp) (N : Ns) (G : Gp) (RX : DXC) (E : XK) : Prop := ∀ cls fs G' N' H' d, RX cls fs G' → Stp K H N G H' N' G' → XdAt K H' N' G' d fs → E cls d H'
theorem UpX.le {K : PySem.W.Frag} {H H1 : Hp} {N N1 : Ns} {G G1 : Gp} {RX : DXW} {W : WX} (q : UpX K H N G RX W) (s : Stp K H N G H1 N1 G1) : UpX K H1 N1 G1 RX W := fun cls fs σ' G' N' τ' H' d r s' rs x => q cls fs σ' G' N' τ' H' d r (s.trans s') rs x
def upX (K : PySem.W.Frag) (W : WX) (t : DXW → DE) : TE := fun τ H Q => ∃ σ G N R RX, RSt K H N σ τ ∧ RelG K H N G ∧ t RX σ G R ∧ UpQ K H N G R Q ∧ UpX K H N G RX W
def upTX (K : PySem.W.Frag) (W : WX) (t : DXW → DT) : TT := fun τ H Q => ∃ σ G N R RX, RSt K H N σ τ ∧ RelG K H N G ∧ t RX σ G R ∧ (∀ b G' N' H', R b G' → Stp K H N G H' N' G' → Q b H') ∧ UpX K H N G RX W
def upAX (K : PySem.W.Frag) (W : WX) (t : DXW → DA) : TA := fun τ H Q => ∃ σ G N R RX, RSt K H N σ τ ∧ RelG K H N G ∧ t RX σ G R ∧ (∀ ds G' N' vs H', R ds G' → Stp K H N G H' N' G' → RDs K H' N' ds vs → Q vs H') ∧ UpX K H N G RX W
def upSX (K : PySem.W.Frag) (W : WX) (t : DXW → DS) : TS := fun D τ H => ∃ σ G N E RX, RSt K H N σ τ ∧ RelG K H N G ∧ t RX E σ G ∧ UpE K H N G E D ∧ UpX K H N G RX W
def QEX (X : Cx) (W : WX) (e : Expr) (t : DXW → DE) : Prop := PE X e (upX X.K W t)
def QTX (X : Cx) (W : WX) (e : Expr) (t : DXW → DT) : Prop := PT X e (upTX X.K W t)
def QAX (X : Cx) (W : WX) (es : List Expr) (t : DXW → DA) : Prop := PA X es (upAX X.K W t)
def QSX (X : Cx) (W : WX) (st : Stmt) (t : DXW → DS) : Prop := PS X st (upSX X.K W t)
def QSsX (X : Cx) (W : WX) (st : List Stmt) (t : DXW → DS) : Prop := PSs X st (upSX X.K W t)
section
variable {X : Cx} {W : WX} {e a b c : Expr} {pos : Pos} {t ta tb : DXW → DE} {u u' : DXW → DT}
/-! ### what raises nothing -/
theorem tx_of {te : DT} (h : QT X e te) : QTX X W e (fun _ => te) := pt_mono h fun τ H Q ⟨σ, G, N, R, RX, hs, hg, ht, q, _⟩ => ⟨σ, G, N, R, hs, hg, ht, q⟩
theorem ax_of {es : List Expr} {te : DA} (h : QA X es te) : QAX X W es (fun _ => te) := pa_mono h fun τ H Q ⟨σ, G, N, R, RX, hs, hg, ht, q, _⟩ => ⟨σ, G, N, R, hs, hg, ht, q⟩
theorem sx_of {st : Stmt} {te : DS} (h : QS X st te) : QSX X W st (fun _ => te) := ps_mono h fun D τ H ⟨σ, G, N, E, RX, hs, hg, ht, q, _⟩ => ⟨σ, G, N, E, hs, hg, ht, q⟩
theorem ssx_of {st : List Stmt} {te : DS} (h : QSs X st te) : QSsX X W st (fun _ => te) := pss_mono h fun D τ H ⟨σ, G, N, E, RX, hs, hg, ht, q, _⟩ => ⟨σ, G, N, E, hs, hg, ht, q⟩
/-! ### expressions -/
variable {es : List Expr} {tr : DXW → DA}
end
/-! ### blocks -/
section
variable {X : Cx} {W : WX} {st : Stmt} {rest : List Stmt} {t u : DXW → DS} {e : Expr} {te : DXW → DE} {pos : Pos}
theorem ssx_nil : QSsX X W [] (fun _ => dNext) := ssx_of qss_nil
theorem ssx_cons (h1 : QSX X W st t) (h2 : QSsX X W rest u) : QSsX X W (st :: rest) (fun RX => dSeq (t RX) (u RX)) := pss_mono (pss_cons h1 h2) fun D τ H h => by
  obtain ⟨σ, G, N, E, RX, hs, hg, ht, q, qx⟩ := h
  refine ⟨σ, G, N, _, RX, hs, hg, ht, ⟨fun σ' G' N' τ' H' h s' r => ?_, q.rt, q.bk, q.ct⟩, qx⟩
  exact ⟨σ', G', N', E, RX, r, s'.rel, h, q.le s', qx.le s'⟩
theorem ssx_one (h1 : QSX X W st t) : QSsX X W [st] t := pss_mono (pss_one h1) fun D τ H h => h
theorem sx_if {c : Expr} {a b : List Stmt} {tc : DXW → DT} (hc : QTX X W c tc) (ha : QSsX X W a t) (hb : QSsX X W b u) : QSX X W (.If c a b pos) (fun RX => dIfS (tc RX) (t RX) (u RX)) := ps_mono (ps_if hc ha hb) fun D τ H h => by
  obtain ⟨σ, G, N, E, RX, hs, hg, ht, q, qx⟩ := h
  refine ⟨σ, G, N, _, RX, hs, hg, ht, fun b G1 N1 H1 h1 s1 => ?_, qx⟩
  cases b with
  | true => rw [if_pos rfl]; exact ⟨σ, G1, N1, E, RX, hs.le s1.kp, s1.rel, h1, q.le s1, qx.le s1⟩
  | false => rw [if_neg Bool.false_ne_true]; exact ⟨σ, G1, N1, E, RX, hs.le s1.kp, s1.rel, h1, q.le s1, qx.le s1⟩
theorem sx_set {i : Nat} {x : Str} {pos' : Pos} (hN : X.N.Nodup) (hi : X.N[i]? = some x) (hx : Loc X.env.scope x) (he : QEX X W e te) (hs : swapsWith e (some (.Name x pos')) pos.line X.env = pure false := by rfl) (hf : X.fn x = true ∨ X.env.scope.names.lookup x = some .local := by first | exact .inl rfl | exact .inr rfl | assumption) :
    QSX X W (.Assign [.Name x pos'] e pos) (fun RX => dAsg (te RX) (dName i)) := ps_mono (ps_set hN hi hx he hs hf) fun D τ H h => by
  obtain ⟨σ, G, N, E, RX, hs, hg, ht, q, qx⟩ := h
  refine ⟨σ, G, N, _, RX, hs, hg, ht, fun d G' N' v H' h s' r => ?_, qx⟩
  exact q.nx _ _ _ _ _ h s' ((hs.le s'.kp).set r i)
end
/-! ### defs that may raise -/
abbrev DSpX := List D → Gp → DK → DXC → Prop
def upSpX (K : PySem.W.Frag) (sp : DSpX) : Sp := fun vs H Q E => ∃ ds G N R RX, RDs K H N ds vs ∧ RelG K H N G ∧ sp ds G R RX ∧ UpQ K H N G R Q ∧ UpXC K H N G RX E
def FnX (P : Program) (w : World) (K : PySem.W.Frag) (mg : Str → Option Value) (base : Heap) (k : Nat) (f : Addr) (fd : FuncData) (ps : List Str) (sp : DSpX) : Prop := FnOk P w K mg base (L2N.CX P w) k f fd ps (upSpX K sp)
theorem FnX.mono {P : Program} {w : World} {K : PySem.W.Frag} {mg : Str → Option Value} {base : Heap} {j k : Nat} {f : Addr} {fd : FuncData} {ps : List Str} {sp : DSpX} (F : FnX P w K mg base j f fd ps sp) (h : j ≤ k) : FnX P w K mg base k f fd ps sp := FnOk.mono F h
theorem FnX.imp {P : Program} {w : World} {K : PySem.W.Frag} {mg : Str → Option Value} {base : Heap} {k : Nat} {f : Addr} {fd : FuncData} {ps : List Str} {sp sp' : DSpX} (F : FnX P w K mg base k f fd ps sp) (h : ∀ ds G R RX, sp' ds G R RX → sp ds G R RX) : FnX P w K mg base k f fd ps sp' :=
  FnOk.imp F fun vs H Q E ⟨ds, G, N, R, RX, r1, r2, h1, q⟩ => ⟨ds, G, N, R, RX, r1, r2, h ds G R RX h1, q⟩
section
variable {P : Program} {w : World} {K : PySem.W.Frag} {mg : Str → Option Value} {base : Heap}
theorem fun_okX {x qual : Str} {st : Stmt} {f : Addr} {fd : FuncData} {M ps : List Str} {k : Nat} {sp : DSpX} (F : Fun K x qual st f fd) (S : FnScope M ps (defScope st)) (len : ∀ ds G R RX, sp ds G R RX → ds.length = ps.length)
    (hbody : ∀ (cdv : Value) (A : Around) (outer : List Env) (s : Shared) (H : Hp) (E : XK), Room k (A.deeper (envOfC qual (defScope st) s.heap.objs.size f cdv)) →
      L2N.Takes (cxOf (L2N.CX P w) P w K mg base M qual (defScope st) f cdv A outer s H E) (fun cls d _ H => E cls d H) →
      ∃ t, QSsX (cxOf (L2N.CX P w) P w K mg base M qual (defScope st) f cdv A outer s H E) (fun cls d _ H => E cls d H) (defBody st) t ∧ ∀ (ds : List D) (G : Gp) (R : DK) (RX : DXC), sp ds G R RX → t (fun cls fs _ G => RX cls fs G) { nx := fun _ G1 => ∃ G', Sub G' G1 ∧ R .non G', rt := R } (startD M.length ds) G) : FnX P w K mg base (k + 1) f fd ps sp := by
  obtain ⟨oc, od, kV, doc, pm, an, cdv, ct, osl, rfl, lk, hcd⟩ := F.ex
  refine fn_of lk hcd S (fun vs H Q E h => ?_) (fun A outer s H vs Q E hr h => ?_)
  · obtain ⟨ds, G, N, R, RX, r1, _, h1, _⟩ := h
    rw [← r1.length]; exact len ds G R RX h1
  · obtain ⟨ds, G, N, R, RX, r1, r2, h1, q, qx⟩ := h
    obtain ⟨t, ht, hq⟩ := hbody cdv A outer s H E hr (L2N.takes_of rfl rfl rfl rfl)
    refine ⟨upSX K _ t, ht, startD M.length ds, G, N, _, _, RSt.begin r1, r2, hq ds G R RX h1, ⟨fun σ' G' N' τ' H' h s' r => ?_, q, fun _ _ _ _ _ h => h.elim, fun _ _ _ _ _ h => h.elim⟩, fun cls fs σ' G' N' τ' H' d h s' _ xd => qx cls fs G' N' H' d h s' xd⟩
    obtain ⟨G2, sb, h⟩ := h
    exact q _ _ _ _ _ h (s'.trans (s'.rel.sub sb)) RD.non
end
section
variable {X : Cx} {W : WX} {k : Nat} {f : Addr} {fd : FuncData} {ps : List Str} {sp : DSpX} {x : Str} {p pos : Pos} {e : Expr} {es : List Expr} {t : DXW → DA}
/-- a wish, with what may be forgotten; a call that may raise -/
def subX (RX : DXW) (σ : Sd) : DXC := fun cls fs G => ∃ G', Sub G' G ∧ RX cls fs σ G'
def dCallX (sp : DSpX) (RX : DXW) (t : DA) : DE := fun σ G R => t σ G fun ds G1 => sp ds G1 R (subX RX σ)
theorem ex_callA (hx : ∀ σ, PassesAt (L2N.CX X.prog X.w) X σ (WE W σ)) (F : FnX X.prog X.w X.K X.mg X.base k f fd ps sp) (hr : Room k X.A) (hg : Gl X x) (hm : X.mg x = some (.ref f)) (hk : PySem.W.keepIn X.K (.ref f) = true) (hb : Binds X.K fd ps []) (ha : QAX X W (e :: es) t)
    (hdb : (x == ("__debug__" : Str)) = false := by decide) (he : starEach (e :: es) X.env = (false, eval e X.env) :: starEach es X.env := by rfl) (hpl : (backTo pos (starEach es X.env)).any (·.1) = false := by rfl) :
    QEX X W (.Call (.Name x p) (e :: es) [] pos) (fun RX => dCallX sp RX (t RX)) := pe_mono (pe_callS F hr hg hm hk hb hx ha hdb he hpl) fun τ H Q h => by
  obtain ⟨σ, G, N, R, RX, hs, hg, ht, q, qx⟩ := h
  refine ⟨σ, G, N, _, RX, hs, hg, ht, fun ds G1 N1 vs H1 h1 s1 r1 => ?_, qx⟩
  refine ⟨ds, G1, N1, R, _, r1, s1.rel, h1, q.le s1, fun cls fs G' N' H' d h s' xd => ?_⟩
  obtain ⟨G3, sb, h⟩ := h
  refine qx cls fs σ G3 N' τ H' d h ((s1.trans s').trans (s'.rel.sub sb)) ((hs.le s1.kp).le s'.kp) ?_
  cases d with
  | none => exact xd
  | some a => exact ⟨xd.1, sb.nn xd.2.1, xd.2.2⟩
end
end DL

set_option Elab.async false
set_option linter.all false
set_option maxRecDepth 100000
set_option maxHeartbeats 4000000
set_option autoImplicit false
namespace DL
open PySem PySem.Spec PyProof.Rows L2
/-! ### comprehensions whose turns may raise -/
section
variable {M : Model} {A : Around} {E : Value → Shared → Prop} {s : Shared} {env : Env}
end
/-! ### an exception leaves the block -/
section
variable {X : Cx} {pins : List (Addr × Obj)} {σ : L2.St} {H : Hp} {s s' : Shared} {B : Heap} {W : WX} {E : XK}
end
end DL

set_option Elab.async false
set_option linter.all false
set_option maxRecDepth 100000
set_option maxHeartbeats 4000000
set_option autoImplicit false
namespace DL
open PySem PySem.Spec PyProof.Rows L2
/-! ### list and dict comprehensions whose element may raise -/
section
variable {X : Cx} {pins : List (Addr × Obj)} {s : Shared} {σ : L2.St} {H : Hp} {Q : VK} {W : WX} {tg iter : Expr} {ifs : List Expr} {sc : Scope} {own : List (Str × Nat)} {g : TG} {tt : TT} {use : Option (Value → Sem Unit)} {Qf : Value → Shared → Prop}
end
/-! ### lists -/
section
variable {X : Cx} {pins : List (Addr × Obj)} {s : Shared} {σ : L2.St} {H : Hp} {Q : VK} {W : WX} {elt tg iter kx : Expr} {ifs : List Expr} {sc : Scope} {own : List (Str × Nat)} {pos pos' : Pos} {wi : TI} {g : TG} {tt : TT} {te tk : TE} {use : Option (Value → Sem Unit)} {Qf : Value → Shared → Prop}
/-! ### dicts, keys ints or texts -/
/-! ### as rules -/
variable {teσ tkσ : L2.St → TE}
end
end DL

set_option Elab.async false
set_option linter.all false
set_option maxRecDepth 100000
set_option maxHeartbeats 4000000
set_option autoImplicit false
namespace DL
open PySem PySem.Spec PyProof.Rows L2
/-! ### comprehensions by data, their element may raise; dict comprehensions -/
theorem UpX.blk {K : PySem.W.Frag} {H H' : Hp} {N N' : Ns} {G G' : Gp} {RX : DXW} {W : WX} {σ : Sd} {τ : L2.St} (q : UpX K H N G RX W) (s : Stp K H N G H' N' G') (rs : RSt K H N σ τ) : UpX K H' N' G' (fun cls fs _ G' => RX cls fs σ G') (fun cls d _ H' => W cls d τ H') :=
  fun cls fs _ G2 N2 _ H2 d r s2 _ x => q cls fs σ G2 N2 τ H2 d r (s.trans s2) (rs.le (s.trans s2).kp) x
theorem RKV.length {K : PySem.W.Frag} {H : Hp} {N : Ns} {a : List (Key × D)} {b : List (Key × V)} (h : RKV K H N a b) : a.length = b.length := Paired.length h
section
variable {X : Cx} {W : WX}
/-! ### raise, try -/
def dRaise (cls : Value) (RX : DXW) : DS := fun _ σ G => ∃ G', Sub G' G ∧ RX cls [] σ G'
inductive HdsD (X : Cx) : List ExceptHandler → List (Value × DS) → Prop
  | nil : HdsD X [] []
  | cons {x : Str} {c : Value} {ts : DS} {b₀ : Stmt} {suite : List Stmt} {np pos' : Pos} {hds : List ExceptHandler} {l : List (Value × DS)} (hc : Names X x c) (hsu : ∀ (a : Addr) (oe : Obj) (pn : List (Addr × Obj)), QSs (X.suite a ((a, oe) :: pn)) (b₀ :: suite) ts) (r : HdsD X hds l) :
      HdsD X (.ExceptHandler (some (.Name x np)) none (b₀ :: suite) pos' :: hds) ((c, ts) :: l)
theorem HdsD.ok {hds : List ExceptHandler} {l : List (Value × DS)} (h : HdsD X hds l) : L2N.HdsOk X hds (l.map fun q => (q.1, fun _ _ _ => upS X.K q.2)) := by
  induction h with
  | nil => exact .nil
  | cons hc hsu r ih => exact .cons hc (fun a oe cls d pn _ _ => hsu a oe pn) ih
end
/-! ### steps -/
section
variable {σ : Sd} {G : Gp} {R : DK} {RX : DXW} {E : DEnds} {ti : DI} {g : DG} {tt : DT} {tk te : DE} {tkX teX : DXW → DE} {tbX : DXW → DS} {ws : List Nat} {mk : Bool} {K : PySem.W.Frag} {l : List (Value × DS)} {cls : Value} {tr : DA} {sp : DSpX}
theorem x_raise : dRaise cls RX E σ G = ∃ G', Sub G' G ∧ RX cls [] σ G' := rfl
theorem x_callX : dCallX sp RX tr σ G R = tr σ G fun ds G1 => sp ds G1 R (subX RX σ) := rfl
theorem subX_same {fs : List (Str × D)} (h : RX cls fs σ G) : subX RX σ cls fs G := ⟨G, Sub.refl G, h⟩
end
end DL

set_option Elab.async false
set_option linter.all false
set_option maxRecDepth 100000
set_option maxHeartbeats 4000000
set_option autoImplicit false
namespace DL
open PySem PySem.Spec PyProof.Rows L2
section
variable {X : Cx}
end
end DL

set_option Elab.async false
set_option linter.all false
set_option maxRecDepth 100000
set_option maxHeartbeats 4000000
set_option autoImplicit false
namespace DL
open PySem PySem.Spec PyProof.Rows L2
section
variable {X : Cx} {e : Expr} {t : DE} {σ : Sd} {G : Gp} {R : DK}
end
end DL

set_option Elab.async false
set_option linter.all false
set_option maxRecDepth 100000
set_option maxHeartbeats 4000000
set_option autoImplicit false
namespace DL
open PySem PySem.Spec PyProof.Rows L2
/-- what was pinned is told of from here on -/
theorem inv_told {X : Cx} {pins : List (Addr × Obj)} {σ : L2.St} {H : Hp} {s : Shared} {a : Addr} {o : HO} (I : Inv X pins σ H s) (na : H a = none) (n0 : X.s_0.heap.get? a = none) (nL : a ≠ X.env.locals) (nC : ∀ v, ¬ s.heap.IsCell a v) (nP : ∀ p ∈ X.pn ++ pins, p.1 ≠ a)
    (new : ObjOk X.prog X.w (upd H a o) s.heap a o) : Inv X pins σ (upd H a o) s where
  ok := I.ok
  os := I.os
  bare := I.bare
  base := ⟨I.base.keep, I.base.slot, fun b u e n x => by rw [upd_ne (fun z => by rw [z, n0] at e; cases e)]; exact I.base.free b u e n x, I.base.there,
    fun b xs e => by have q := I.base.tups b xs e; rw [upd_ne (ne_of_none q na)]; exact q, fun b u v e => by have q := I.base.frzs b u v e; rw [upd_ne (ne_of_none q na)]; exact q,
    fun b ps e => by obtain ⟨m, q⟩ := I.base.tbls b ps e; exact ⟨m, by rw [upd_ne (ne_of_none q na)]; exact q⟩⟩
  loc := I.loc
  cell := I.cell
  free := by rw [upd_ne (Ne.symm nL)]; exact I.free
  freeC := fun x c e => by
    obtain ⟨v, hc⟩ := I.cell x c e
    rw [upd_ne (fun z => by rw [z] at hc; exact nC v hc)]
    exact I.freeC x c e
  pin := fun p hp => by
    obtain ⟨h1, h2, h3⟩ := I.pin p hp
    exact ⟨h1, by rw [upd_ne (nP p hp)]; exact h2, h3⟩
  hok := I.hok.laidN (fun _ _ q => q) na new
  len := I.len
section
variable {X : Cx} {x n y : Str} {c : Value} {i j : Nat} {body : List Stmt} {np pos pos' py pe pa : Pos} {tb : WX → TS}
end
/-! ### by data -/
theorem RSt.unset {K : PySem.W.Frag} {H : Hp} {N : Ns} {σ : Sd} {τ : L2.St} (h : RSt K H N σ τ) (i : Nat) : RSt K H N (σ.set i none) (τ.set i none) := by
  refine ⟨by rw [List.length_set, List.length_set]; exact h.1, fun j x e => ?_⟩
  by_cases hj : i = j
  · subst hj
    by_cases hl : i < σ.length
    · rw [List.getElem?_set_self hl] at e; cases e
    · rw [List.getElem?_eq_none (by rw [List.length_set]; omega)] at e; cases e
  · rw [List.getElem?_set_ne hj] at e ⊢
    exact h.2 j x e
section
variable {X : Cx} {x n y : Str} {c : Value} {i j : Nat} {body : List Stmt} {np pos pos' py pe pa : Pos} {tb : DXW → DS}
end
/-! ### isinstance of what was caught -/
/-- a class as a value -/
def valC : D → Option Value | .ty n => some (.type n) | .ref a => some (.ref a) | _ => none
def valCs : List D → Option (List Value)
  | [] => some []
  | d :: ds => match valC d, valCs ds with | some v, some vs => some (v :: vs) | _, _ => none
theorem valC_ok {K : PySem.W.Frag} {H : Hp} {N : Ns} {d : D} {v : V} {u cv : Value} (r : RD K H N d v) (ru : RelV v u) (h : valC d = some cv) : u = cv := by
  cases d with
  | ty n => cases h; rw [r.of_ty] at ru; exact ru
  | ref a => cases h; rw [show v = V.ref a from r] at ru; exact ru
  | _ => cases h
theorem valCs_ok {K : PySem.W.Frag} {H : Hp} {N : Ns} : ∀ {ds : List D} {vs : List V} {us cvs : List Value}, RDs K H N ds vs → Vals vs us → valCs ds = some cvs → us = cvs
  | [], _, _, _, r, ru, h => by
    rw [r.of_nil] at ru
    cases ru
    cases h
    rfl
  | d :: ds, _, _, _, r, ru, h => by
    obtain ⟨v, vs, rfl, r1, r2⟩ := r.of_cons
    cases ru with
    | cons a b =>
      simp only [valCs] at h
      split at h
      · rename_i e1 e2
        cases h
        rw [valC_ok r1 a e1, valCs_ok r2 b e2]
      · cases h
theorem kit_yes {K : PySem.W.Frag} {C x : Addr} (hd : PySem.W.hasDictIn K x = true) (ht : PySem.W.typeIn K (.ref x) = some (.type "type")) (hs : PySem.W.subIn K (.ref C) (.ref x) = some true) : PySem.W.kitOne K (.ref C) (.ref x) = some true := by
  obtain ⟨cd, hc, _⟩ := PySem.W.any_some hd
  unfold PySem.W.kitOne
  split
  · rfl
  · show (if ((PySem.W.clsIn K x).isSome && PySem.W.typeIn K (.ref x) == some (.type "type")) = true then PySem.W.subIn K (.ref C) (.ref x) else none) = _
    rw [if_pos (by rw [hc, ht] <;> rfl)]
    exact hs
theorem kit_no {K : PySem.W.Frag} {C x : Addr} (hd : PySem.W.hasDictIn K x = true) (ht : PySem.W.typeIn K (.ref x) = some (.type "type")) (hs : PySem.W.subIn K (.ref C) (.ref x) = some false) (self : PySem.W.subIn K (.ref C) (.ref C) = some true) : PySem.W.kitOne K (.ref C) (.ref x) = some false := by
  obtain ⟨cd, hc, _⟩ := PySem.W.any_some hd
  unfold PySem.W.kitOne
  split
  · rename_i e
    have : C = x := Value.ref.inj (beq_iff_eq.mp e)
    subst this
    rw [self] at hs
    cases hs
  · show (if ((PySem.W.clsIn K x).isSome && PySem.W.typeIn K (.ref x) == some (.type "type")) = true then PySem.W.subIn K (.ref C) (.ref x) else none) = _
    rw [if_pos (by rw [hc, ht] <;> rfl)]
    exact hs
theorem kit_tyB {K : PySem.W.Frag} {C : Addr} {T : String} {b : Bool} (hm : PySem.W.kitMeta T = true) (hs : PySem.W.subIn K (.ref C) (.type T) = some b) : PySem.W.kitOne K (.ref C) (.type T) = some b := by
  unfold PySem.W.kitOne
  rw [if_neg (fun e => by cases beq_iff_eq.mp e)]
  show (if PySem.W.kitMeta T = true then PySem.W.subIn K (.ref C) (.type T) else none) = _
  rw [if_pos hm]
  exact hs
theorem kit_any1 {K : PySem.W.Frag} {t c : Value} {r : List Value} {b : Bool} (h : PySem.W.kitOne K t c = some false) (h2 : PySem.W.kitAny K t r = some b) : PySem.W.kitAny K t (c :: r) = some b := by simp only [PySem.W.kitAny, h, h2]
theorem kit_any0 {K : PySem.W.Frag} {t : Value} : PySem.W.kitAny K t [] = some false := rfl
def dIsiE (K : PySem.W.Frag) : DRn := fun ds G R => match ds with
  | [.ref a, c] => (match G a with
    | some (.ex (.ref D) _) => ExcC K D ∧ ((∃ cv b, valC c = some cv ∧ PySem.W.kitOne K (.ref D) cv = some b ∧ R (.bl b) G) ∨ ∃ cs cvs b, c = .tup cs ∧ valCs cs = some cvs ∧ PySem.W.kitAny K (.ref D) cvs = some b ∧ R (.bl b) G)
    | _ => dIsiX [.ref a, c] G R)
  | _ => dIsiX ds G R
theorem cd_isiE {X : Cx} : CallD X (.builtin "isinstance") (dIsiE X.K) := by
  intro pins s σ H xs us Q I r h
  obtain ⟨cs, G, N, R, rd, rg, h, q⟩ := h
  unfold dIsiE at h
  split at h
  · rename_i a c
    split at h
    · rename_i D fs eG
      obtain ⟨C, h⟩ := h
      obtain ⟨v, r', rfl, r1, r2⟩ := rd.of_cons
      obtain ⟨v', r'', rfl, r3, r4⟩ := r2.of_cons
      obtain rfl := r4.of_nil
      obtain ⟨u1, u2, rfl, ru1, ru2⟩ := vals2 r
      cases (show v = V.ref a from r1)
      cases (show u1 = Value.ref a from ru1)
      obtain ⟨_, d, hH, xd⟩ := rg a _ eG
      obtain ⟨oe, od, J⟩ : ∃ oe od, PySem.W.InstAt s.heap a oe D od := by
        obtain ⟨⟨oe, vs, hg, hc, hdn, hf⟩, _⟩ := I.hok a _ hH
        obtain ⟨oc, odd, oda, osl⟩ := oe
        dsimp only at hc hdn hf
        subst hc hdn hf
        cases odd with
        | none => exact ⟨_, none, hg, rfl, rfl, trivial⟩
        | some p =>
          obtain ⟨_, fs', hp, _⟩ := xd
          have hx : ObjOk X.prog X.w H s.heap p (.xd fs') := I.hok p _ hp
          obtain ⟨mA, hns, _⟩ := hx
          obtain ⟨o, _, _, ho, _⟩ := hns
          exact ⟨_, some o, hg, rfl, rfl, ho⟩
      have hcl : (PySem.W.clsIn X.K D).isSome = true := by
        obtain ⟨cd, hc, _⟩ := PySem.W.any_some C.hd
        rw [hc] <;> rfl
      have Z := PySem.W.kitx_exc (x := a) (ox := oe) (od := od) hcl C.hg C.hk C.hs C.ha C.hn C.ht C.hm
      rcases h with ⟨cv, b, ec, ek, h⟩ | ⟨cs, cvs, b, rfl, ec, ek, h⟩
      · have := valC_ok r3 ru2 ec
        subst this
        exact PySem.W.kia_one Z I.kIn J ek (fun z => nomatch z) fun tk => ⟨.bl b, H, I.tok tk, rfl, q.at rg h (RD.bl _)⟩
      · obtain ⟨tp, vs2, rfl, sq, rvs⟩ := r3.of_tup
        cases (show u2 = Value.ref tp from ru2)
        obtain ⟨its, rv, ⟨o, h1, h2, k, h3⟩, _⟩ := I.tuple sq
        have e3 := valCs_ok rvs rv ec
        subst e3
        obtain ⟨oc, od, dt, sl⟩ := o
        simp only at h2 h3
        subst h2 h3
        exact PySem.W.kia_tup Z I.kIn J h1 ek (fun z => nomatch z) fun tk => ⟨.bl b, H, I.tok tk, rfl, q.at rg h (RD.bl _)⟩
    · exact cd_isiX pins s σ H xs us Q I r ⟨_, G, N, R, rd, rg, h, q⟩
  · exact cd_isiX pins s σ H xs us Q I r ⟨_, G, N, R, rd, rg, h, q⟩
/-! ### steps -/
section
variable {K : PySem.W.Frag} {G : Gp} {R : DK} {RX : DXW} {E : DEnds} {σ : Sd} {tb : DXW → DS} {c : Value} {i j : Nat} {a Dc : Addr} {cls : Value}
theorem isE_one {d : D} {cv : Value} {b : Bool} {fs : List (Str × D)} (eG : G a = some (.ex (.ref Dc) fs)) (C : ExcC K Dc) (ec : valC d = some cv) (ek : PySem.W.kitOne K (.ref Dc) cv = some b) (h : R (.bl b) G) : dIsiE K [.ref a, d] G R := by
  unfold dIsiE; dsimp only; rw [eG]; exact ⟨C, .inl ⟨cv, b, ec, ek, h⟩⟩
theorem isE_tup {cs : List D} {cvs : List Value} {b : Bool} {fs : List (Str × D)} (eG : G a = some (.ex (.ref Dc) fs)) (C : ExcC K Dc) (ec : valCs cs = some cvs) (ek : PySem.W.kitAny K (.ref Dc) cvs = some b) (h : R (.bl b) G) : dIsiE K [.ref a, .tup cs] G R := by
  unfold dIsiE; dsimp only; rw [eG]; exact ⟨C, .inr ⟨cs, cvs, b, rfl, ec, ek, h⟩⟩
end
end DL

set_option Elab.async false
set_option linter.all false
set_option maxRecDepth 100000
set_option maxHeartbeats 4000000
set_option autoImplicit false
namespace DL
open PySem PySem.Spec PyProof.Rows L2
/-! ### f(k = v, ..) of a def that may raise -/
section
variable {X : Cx} {W : WX} {k : Nat} {f : Addr} {fd : FuncData} {ps ks : List Str} {sp : DSpX} {x : Str} {p pos : Pos} {kws : List Keyword} {tk : DA}
end
end DL

set_option Elab.async false
set_option linter.all false
set_option maxRecDepth 100000
set_option maxHeartbeats 4000000
set_option autoImplicit false
namespace DL
open PySem PySem.Spec PyProof.Rows L2
/-! ### range(i, j) -/
section
variable {X : Cx}
end
end DL

set_option Elab.async false
set_option linter.all false
set_option maxRecDepth 100000
set_option maxHeartbeats 4000000
set_option autoImplicit false
namespace DL
open PySem PySem.Spec PyProof.Rows L2
/-! ### f(a, .., k = v, ..) -/
section
variable {X : Cx} {k : Nat} {f : Addr} {fd : FuncData} {ps ks : List Str} {sp : DSp} {x : Str} {p pos : Pos} {e : Expr} {es : List Expr} {kws : List Keyword} {ta tk : DA}
theorem RDs.app {K : PySem.W.Frag} {H : Hp} {N : Ns} : ∀ {ds es : List D} {vs ws : List V}, RDs K H N ds vs → RDs K H N es ws → RDs K H N (ds ++ es) (vs ++ ws)
  | [], _, _, _, h, h2 => by rw [h.of_nil]; exact h2
  | d :: ds, es, _, ws, h, h2 => by
    obtain ⟨v, vs, rfl, r1, r2⟩ := h.of_cons
    exact RDs.cons r1 (RDs.app r2 h2)
end
/-! ### a list that is known, lent: what is known besides stays so where no list stands in it -/
section
variable {X : Cx} {k : Nat} {f : Addr} {fd : FuncData} {ps : List Str} {sp : DSp} {x : Str} {p pos : Pos} {e : Expr} {es : List Expr} {t : DA}
end
/-! ### != of lists in which known lists stand -/
end DL

set_option Elab.async false
set_option linter.all false
set_option maxRecDepth 100000
set_option maxHeartbeats 4000000
set_option autoImplicit false
namespace DL
open PySem PySem.Spec PyProof.Rows L2
/-! ### sorted of a dict whose keys are alike -/
section
variable {X : Cx} {k : Nat}
end
/-! ### range(i, j, -1) -/
section
variable {X : Cx}
end
end DL

set_option Elab.async false
set_option linter.all false
set_option maxRecDepth 100000
set_option maxHeartbeats 4000000
set_option autoImplicit false
namespace DL
open PySem PySem.Spec PyProof.Rows L2
/-! ### list(zip(xs, ys)) of two lists -/
section
variable {X : Cx} {pins : List (Addr × Obj)} {σ : L2.St} {H : Hp}
variable {a b : Expr} {p p2 pos pos2 : Pos}
end
end DL

set_option Elab.async false
set_option linter.all false
set_option maxRecDepth 100000
set_option maxHeartbeats 4000000
set_option autoImplicit false
namespace DL
open PySem PySem.Spec PyProof.Rows L2
/-! ### len of a dict whose keys are tuples, or of any dict told by its entries -/
section
variable {X : Cx}
end
end DL

set_option Elab.async false
set_option linter.all false
set_option maxRecDepth 100000
set_option maxHeartbeats 4000000
set_option autoImplicit false
namespace DL
open PySem PySem.Spec PyProof.Rows L2
/-! ### tuple * int, by 0 and 1 too -/
section
variable {X : Cx}
end
end DL

set_option Elab.async false
set_option linter.all false
set_option maxRecDepth 100000
set_option maxHeartbeats 4000000
set_option autoImplicit false
namespace DL
open PySem PySem.Spec PyProof.Rows L2
/-! ### [elt for x in xs for y in ys] -/
section
variable {X : Cx}
end
section
variable {X : Cx}
end
end DL

set_option Elab.async false
set_option linter.all false
set_option maxRecDepth 100000
set_option maxHeartbeats 4000000
set_option autoImplicit false
namespace DL
open PySem PySem.Spec PyProof.Rows L2
/-! ### ("a", "b")[:k]: a slice of a tuple of texts without a dict is one again -/
section
variable {X : Cx} {e : Expr} {te : DE} {pos : Pos}
end
end DL

set_option Elab.async false
set_option linter.all false
set_option maxRecDepth 100000
set_option maxHeartbeats 4000000
set_option autoImplicit false
namespace DL
open PySem PySem.Spec PyProof.Rows L2
/-! ### a def that may raise, where it does not -/
theorem FnX.calm {P : Program} {w : World} {K : PySem.W.Frag} {mg : Str → Option Value} {base : Heap} {k : Nat} {f : Addr} {fd : FuncData} {ps : List Str} {sp : DSpX} (F : FnX P w K mg base k f fd ps sp) : FnD P w K mg base k f fd ps (fun ds G R => sp ds G R fun _ _ _ => False) := by
  have lift : ∀ {vs : List V} {H : Hp} {Q : VK} {E : XK}, upSp K (fun ds G R => sp ds G R fun _ _ _ => False) vs H Q E → upSpX K sp vs H Q (fun _ _ _ => False) := by
    rintro vs H Q E ⟨ds, G, N, R, r1, r2, h1, q⟩
    exact ⟨ds, G, N, R, fun _ _ _ => False, r1, r2, h1, q, fun _ _ _ _ _ _ h => h.elim⟩
  refine ⟨fun vs H Q E h => F.len vs H Q _ (lift h), fun A outer s H args us vs Q E hr he hb hv hs => ?_⟩
  refine codeAny_mono (F.run A outer s H args us vs Q (fun _ _ _ => False) hr he hb hv (lift hs)) fun r s' hq => ?_
  cases r with
  | ok fl => cases fl <;> exact hq
  | error e => obtain ⟨_, _, _, _, _, _, _, _, _, _, _, _, hE⟩ := hq; exact hE.elim
end DL

set_option Elab.async false
set_option linter.all false
set_option maxRecDepth 100000
set_option maxHeartbeats 4000000
set_option autoImplicit false
namespace DL
open PySem PySem.Spec PyProof.Rows L2
/-! ### f-strings of texts and ints; partition -/
section
variable {X : Cx} {e : Expr} {te : DE} {pos : Pos}
inductive QJ (X : Cx) : List Expr → List DE → Prop where
  | nil : QJ X [] []
  | cons {e : Expr} {t : DE} {es : List Expr} {ts : List DE} (h : QE X e t) (r : QJ X es ts) : QJ X (e :: es) (t :: ts)
end
section
variable {te : DE} {ts : List DE} {acc x y : Str} {i : Int} {σ : Sd} {G : Gp} {R : DK} {k : Str → Prop}
end
end DL

set_option Elab.async false
set_option linter.all false
set_option maxRecDepth 100000
set_option maxHeartbeats 4000000
set_option autoImplicit false
namespace DL
open PySem PySem.Spec PyProof.Rows L2
/-! ### x in d, d.update(e), of kept dicts with plain keys -/
section
variable {X : Cx}
end
end DL

set_option Elab.async false
set_option linter.all false
set_option maxRecDepth 100000
set_option maxHeartbeats 4000000
set_option autoImplicit false
namespace DL
open PySem PySem.Spec PyProof.Rows L2
/-! ### dict comprehensions over typed things -/
end DL

set_option Elab.async false
set_option linter.all false
set_option maxRecDepth 100000
set_option maxHeartbeats 4000000
set_option autoImplicit false
namespace DL
open PySem PySem.Spec PyProof.Rows L2
/-! ### isinstance(None, a class of the program) -/
variable {X : Cx}
section
variable {K : PySem.W.Frag} {G : Gp} {R : DK} {x a : Addr} {d : D} {ds : List D}
end
end DL

set_option Elab.async false
set_option linter.all false
set_option maxRecDepth 100000
set_option maxHeartbeats 4000000
set_option autoImplicit false
namespace DL
open PySem PySem.Spec PyProof.Rows L2
/-! ### what a def tells, with less known: a new list as a list that nobody changes -/
theorem FnD.wk {P : Program} {w : World} {K : PySem.W.Frag} {mg : Str → Option Value} {base : Heap} {k : Nat} {f : Addr} {fd : FuncData} {ps : List Str} {sp : DSp} (F : FnD P w K mg base k f fd ps sp) : FnD P w K mg base k f fd ps (fun ds G R => sp ds G (Rt R)) :=
  FnOk.imp F fun vs H Q E ⟨ds, G, N, R, r1, r2, h1, q⟩ => ⟨ds, G, N, Rt R, r1, r2, h1, fun d G' N' v H' ⟨d', G2, w, h⟩ s' r => q.wk s' r w h s'.old⟩
end DL

set_option Elab.async false
set_option linter.all false
set_option maxRecDepth 100000
set_option maxHeartbeats 4000000
set_option autoImplicit false
namespace DL
open PySem PySem.Spec PyProof.Rows L2
/-! ### x = {k: v for ..}, x a plain local -/
section
variable {X : Cx} {W : WX} {sc : Scope} {own : List (Str × Nat)} {kx elt tg iter : Expr} {ifs : List Expr} {pos : Pos} {wi : TI} {g : TG} {tt : TT} {teσ tkσ : L2.St → TE}
end
section
variable {X : Cx} {W : WX}
variable {ti : DI} {g : DG} {tt : DT} {tk te : DXW → DE} {ws : List Nat} {σ : Sd} {G : Gp} {R : DK} {RX : DXW}
end
end DL

set_option Elab.async false
set_option linter.all false
set_option maxRecDepth 100000
set_option maxHeartbeats 4000000
set_option autoImplicit false
namespace DL
open PySem PySem.Spec PyProof.Rows L2
/-! ### methods with defaults left out; e.f op= value -/
section
variable {X : Cx} {C : Addr} {f m : Str} {e o value : Expr} {pos tpos apos : Pos} {ta tv : DE} {k : Nat} {g : Addr} {fd : FuncData} {ps : List Str} {sp : DSp}
end
/-! ### defs with defaults -/
end DL

set_option Elab.async false
set_option linter.all false
set_option maxRecDepth 100000
set_option maxHeartbeats 4000000
set_option autoImplicit false
namespace DL
open PySem PySem.Spec PyProof.Rows L2
/-! ### zip of any two iterators, its last pair still held -/
section
variable {prog : Program} {w : World} {A : Around} {E : Value → Shared → Prop} {s : Shared} {z TI TO T i1 i2 : Addr} {fp1 fp2 : List Addr} {n1 n2 i : Nat} {P1 P2 : Nat → Value → Prop} {St1 St2 : Nat → Heap → Prop} {f : Bool} {oT : Obj}
end
end DL

set_option Elab.async false
set_option linter.all false
set_option maxRecDepth 100000
set_option maxHeartbeats 4000000
set_option autoImplicit false
namespace DL
open PySem PySem.Spec PyProof.Rows L2
/-! ### dict(zip(t, xs)) of a tuple of texts and a list, kept -/
section
variable {X : Cx} {pins : List (Addr × Obj)} {σ : L2.St} {H : Hp}
variable {a b : Expr} {p p2 pos pos2 : Pos}
end
end DL

set_option Elab.async false
set_option linter.all false
set_option maxRecDepth 100000
set_option maxHeartbeats 4000000
set_option autoImplicit false
namespace DL
open PySem PySem.Spec PyProof.Rows L2 NdefX
/-! ### a lambda with a parameter, made in a def's body -/
/-- what the making of a lambda changes: the table and a new code object, or nothing; then the new function -/
def LamNew (H : Hp) (P : Addr) (q : Str) (f c' : Addr) (u : HO) (H2 : Hp) : Prop := ∃ H1 : Hp, ((H1 = H ∧ H c' = some (LamX.CodeO c' q)) ∨ ∃ ps more : Array Value, H P = some (.tbl ps) ∧ H c' = none ∧ H1 = upd (upd H c' (LamX.CodeO c' q)) P (.tbl (ps ++ more)) ∧ LamX.TabS H1 P q) ∧ H1 f = none ∧ H2 = upd H1 f u
section
variable {X : Cx} {pins : List (Addr × Obj)} {σ : L2.St} {H : Hp} {s : Shared}
end
theorem LamNew.keep {H : Hp} {P : Addr} {q : Str} {f c' : Addr} {u : HO} {H2 : Hp} (n : LamNew H P q f c' u H2) {b : Addr} {o : HO} (h : H b = some o) (ht : ∀ ps, o ≠ .tbl ps) : H2 b = some o := by
  obtain ⟨H1, h1, hf, rfl⟩ := n
  have e : H1 b = some o := by
    rcases h1 with ⟨rfl, _⟩ | ⟨ps, more, hP, nC, rfl, _⟩
    · exact h
    · rw [upd_ne (fun z => ht ps (by rw [z, hP] at h; exact (Option.some.inj h).symm)), upd_ne (ne_of_none h nC)]
      exact h
  rw [upd_ne (ne_of_none e hf)]
  exact e
theorem LamNew.seq {K : PySem.W.Frag} {H : Hp} {P : Addr} {q : Str} {f c' : Addr} {u : HO} {H2 : Hp} (n : LamNew H P q f c' u H2) {a : Addr} {xs : List V} (h : SqL K H a xs ∨ SqT K H a xs) : SqL K H2 a xs ∨ SqT K H2 a xs := by
  rcases h with ((h | ⟨o, h⟩) | h) | ((h | ⟨o, h⟩) | h)
  · exact .inl (.inl (.inl (n.keep h fun ps e => by cases e)))
  · exact .inl (.inl (.inr ⟨o, n.keep h fun ps e => by cases e⟩))
  · exact .inl (.inr h)
  · exact .inr (.inl (.inl (n.keep h fun ps e => by cases e)))
  · exact .inr (.inl (.inr ⟨o, n.keep h fun ps e => by cases e⟩))
  · exact .inr (.inr h)
section
variable {X : Cx}
end
/-! by data -/
section
variable {X : Cx}
end
/-! a def whose code object is known -/
end DL

set_option Elab.async false
set_option linter.all false
set_option maxRecDepth 100000
set_option maxHeartbeats 4000000
set_option autoImplicit false
namespace DL
open PySem PySem.Spec PySem.Calls PyProof.Rows PySem.SeqAt PySem.W L2
/-! ### min of a list of tuples of whole numbers -/
section
variable {X : Cx} {k : Nat}
end
end DL

set_option Elab.async false
set_option linter.all false
set_option maxRecDepth 100000
set_option maxHeartbeats 4000000
set_option autoImplicit false
namespace DL
open PySem PySem.Spec PyProof.Rows L2
/-! ### a kept dict gone through while it is only read: it stands still for one statement -/
section
variable {X : Cx} {pins : List (Addr × Obj)} {σ : L2.St} {H : Hp} {s : Shared} {a : Addr} {o : Obj} {kvs : List (Key × V)}
end
/-! for k in d -/
/-! x in d -/
section
variable {X : Cx}
/-! d.pop(k), len(d) -/
end
end DL

set_option Elab.async false
set_option linter.all false
set_option maxRecDepth 100000
set_option maxHeartbeats 4000000
set_option autoImplicit false
namespace DL
open PySem PySem.Spec PyProof.Rows L2
/-! ### dict of a tuple of pairs -/
section
variable {X : Cx} {pins : List (Addr × Obj)} {σ : L2.St} {H : Hp} {s : Shared} {N : Ns} {a : Addr} {kvs : List (D × D)} {kvs' : List (Int × V × V)}
end
section
variable {α β : Type} [DecidableEq α] {d : α → D} {v : β → D} (heq : ∀ a b, eqD (d a) (d b) = decide (a = b))
include heq
end
/-! ### a new tuple whose object is known: no dict -/
/-! ### C(a, .., k = v, ..), o.m(k = v, ..) -/
section
variable {X : Cx} {C f : Addr} {k : Nat} {fd : FuncData} {ps ks : List Str} {sp : DSp} {x m : Str} {p pos apos : Pos} {e o : Expr} {es : List Expr} {kws : List Keyword} {ta tk : DA} {to : DE}
end
/-! ### try: .. finally: .. where nothing raises; a raise that is not come to -/
section
variable {X : Cx} {body : List Stmt} {f₀ : Stmt} {fs : List Stmt} {pos : Pos}
end
/-! ### defs with keyword-only parameters, all with defaults -/
end DL

set_option Elab.async false
set_option linter.all false
set_option maxRecDepth 100000
set_option maxHeartbeats 4000000
set_option autoImplicit false
namespace DL
open PySem PySem.Spec PyProof.Rows L2
/-! ### (a, b): a new tuple whose object is known: no dict -/
section
variable {X : Cx} {es : List Expr} {tr : DA} {pos : Pos}
end
end DL

set_option Elab.async false
set_option linter.all false
set_option maxRecDepth 100000
set_option maxHeartbeats 4000000
set_option autoImplicit false
namespace DL
open PySem PySem.Spec PyProof.Rows L2
/-! ### an own exception with a field: class C(B): def __init__(self, f): B.__init__(self, ..); self.f = f -/
/-- the class at C is made over ValueError, its instances have a dict -/
def oexB (K : PySem.W.Frag) (C : Addr) : Bool := match K.lookup C with
  | some ⟨.type "type", _, .cls cd, sl⟩ => (match cd.mro, sl.toList with
    | .ref C' :: bm, [_, _, _, _, some (.builtin n), _] => C' == C && (n == "ValueError.__new__" && (!cd.hasDel && (cd.hasDict && PySem.HandSPX.refsVE bm)))
    | _, _ => false)
  | _ => false
theorem oexB_ok {K : PySem.W.Frag} {C : Addr} (q : oexB K C = true) (sa : PySem.W.findIn K (.ref C) "__setattr__" = some (some (.builtin "object.__setattr__"))) (b : PySem.W.subIn K (.ref C) (.type "BaseException") = some true) (t : PySem.W.typeIn K (.ref C) = some (.type "type")) (k : PySem.W.keepIn K (.ref C) = true) : OexC K C := by
  refine ⟨?_, sa, b, t, k⟩
  unfold oexB at q
  split at q
  · rename_i dd cd sl ho
    split at q
    · rename_i C' bm k0 k1 k2 k3 n k5 hm hs
      simp only [Bool.and_eq_true, beq_iff_eq, Bool.not_eq_true'] at q
      obtain ⟨rfl, rfl, hdel, hdict, hv⟩ := q
      obtain ⟨nm, bs, mro, ns, qn, hd, sn, sub, ab, col, del⟩ := cd
      dsimp only at hm hdel hdict
      subst hm hdel hdict
      have hsl : sl = #[k0, k1, k2, k3, some (.builtin "ValueError.__new__"), k5] := by
        obtain ⟨l⟩ := sl
        simp only at hs
        rw [hs]
      subst hsl
      exact ⟨nm, qn, ns, bs, bm, sn, sub, ab, col, dd, k0, k1, k2, k3, k5, ho, hv⟩
    · cases q
  · cases q
section
variable {X : Cx} {e : Expr} {es : List Expr} {te : TE} {ta : TA} {p1 p2 pos : Pos}
/-- B.__init__(self, ..), B an own class over ValueError without an own __init__ -/
theorem pe_clsinit {x : Str} {B : Addr} (hg : Gl X x) (hm : X.mg x = some (.ref B)) (ga : PySem.W.specialIn X.K (.ref B) "__getattribute__" = some (some (.builtin "type.__getattribute__"))) (rd : PySem.W.readsIn X.K B (.type "type") = true)
    (vV : PySem.W.findCls X.K (.ref B) (.type "type") "__init__" = some (.val (.builtin "ValueError.__init__"))) (ha : PA X (e :: es) ta) {pl : Sem Bool} (hdb : (x == ("__debug__" : Str)) = false := by decide)
    (hc : eval (.Call (.Attribute (.Name x p1) "__init__" p2) (e :: es) [] pos) X.env = (do
      let ov ← eval (.Name x p1) X.env
      standAt p2.atName
      let (f, first) ← holding [ov] (getMethod ov "__init__" pl)
      callWith pos f first (backTo pos (starEach (e :: es) X.env)) (backToKw pos (keywordEach [] X.env))) := by rfl)
    (he : starEach (e :: es) X.env = (false, eval e X.env) :: starEach es X.env := by rfl) (hpl : (backTo pos (starEach es X.env)).any (·.1) = false := by rfl) :
    PE X (.Call (.Attribute (.Name x p1) "__init__" p2) (e :: es) [] pos) (tVeI X.K ta) := by
  refine ⟨fun pins s σ H Q I h => ?_⟩
  refine PySem.W.methodCall_KW (ld_glob I hg hm ?_ hdb) hc
  refine PySem.W.method_cls I.kIn ga (PySem.W.cls_value I.kIn rd vV (by decide +kernel) ?_)
  show wpAny _ _ (callWith pos (Value.builtin "ValueError.__init__") [] (backTo pos (starEach (e :: es) X.env)) []) _ _ _
  refine PyProof.Rows.callWith_method1 (thn (ha.run pos pins _ σ H _ ((I.tok _).tok _) h) fun us s1 ⟨vs, H1, I1, r1, a, C, ws, ev, hl, T, ea, q⟩ => ?_) he hpl
  subst ev
  cases r1 with
  | @cons _ u0 _ ur ra rw' =>
    obtain rfl : u0 = Value.ref a := ra
    have hlen : ur.length ≤ sizeLine := by
      rw [← Paired.length rw', PySem.sizeLine_eq]
      omega
    exact oinit_ok T I1 ea hlen fun s' J => ⟨.non, H1, J, rfl, q⟩
end
/-- what such an __init__ does -/
def spIni (K : PySem.W.Frag) (f : Str) : Sp := fun vs H Q _ => ∃ (a C : Addr) (y : V), vs = [.ref a, y] ∧ OexC K C ∧ H a = some (exo a C none) ∧ PySem.W.findIn K (.ref C) f = some none ∧
  ∀ dx, H dx = none → dx ≠ a → Q .non (upd (upd H dx (exd dx [(f, y)])) a (exo a C (some dx)))
/-- its two statements -/
def tIni (K : PySem.W.Frag) (f m : Str) : TS := tSeq (tDrop (tVeI K (tCons (tVar 0) (tCons (tC (.str m)) tNil)))) (tSeq (tOst K f (tVar 0) (tVar 1)) tNext)
theorem fun_okI {P : Program} {w : World} {K : PySem.W.Frag} {mg : Str → Option Value} {base : Heap} {x qual : Str} {st : Stmt} {fa : Addr} {fd : FuncData} {M : List Str} {f m n1 n2 : Str} {k : Nat} (F : Fun K x qual st fa fd) (S : FnScope M [n1, n2] (defScope st)) (hM : M.length = 2)
    (hbody : ∀ (cdv : Value) (A : Around) (outer : List Env) (s : Shared) (H : Hp), PSs (cxOf CX0 P w K mg base M qual (defScope st) fa cdv A outer s H E0).nox (defBody st) (tIni K f m)) :
    FnOk P w K mg base CX0 (k + 1) fa fd [n1, n2] (spIni K f) := by
  refine F.ok S (fun vs H Q E h => ?_) (fun cdv A outer s H vs Q E hr h => ?_)
  · obtain ⟨a, C, y, rfl, _⟩ := h
    rfl
  · refine ⟨_, hbody cdv A outer s H, ?_⟩
    obtain ⟨a, C, y, rfl, T, ea, no, q⟩ := h
    have s0 : (L2.start M [V.ref a, y])[0]? = some (some (V.ref a)) := by
      obtain _ | ⟨_, _ | ⟨_, _ | _⟩⟩ := M <;> first | rfl | cases hM
    have s1 : (L2.start M [V.ref a, y])[1]? = some (some y) := by
      obtain _ | ⟨_, _ | ⟨_, _ | _⟩⟩ := M <;> first | rfl | cases hM
    refine ⟨_, s0, a, C, [V.str m], rfl, by simp, T, ea, ?_⟩
    exact ⟨_, s1, _, s0, a, C, rfl, T, no, .inl ⟨ea, fun dx n ne => q dx n ne⟩⟩
section
variable {X : Cx} {e : Expr} {te : TE} {p pos : Pos}
/-- C(e) -/
theorem pmk_ini {x f n1 n2 : Str} {C fI : Addr} {k : Nat} {fd : FuncData} (T : OexC X.K C) (iC : PySem.W.findIn X.K (.ref C) "__init__" = some (some (.ref fI))) (tI : PySem.W.typeIn X.K (.ref fI) = some (.type "function")) (no : PySem.W.findIn X.K (.ref C) f = some none)
    (F1 : FnOk X.prog X.w X.K X.mg X.base CX0 k fI fd [n1, n2] (spIni X.K f)) (hr : Room (k + 1) X.A) (hb : Binds X.K fd [n1, n2] []) (hg : Gl X x) (hm : X.mg x = some (.ref C)) (he : PE X e te)
    (hdb : (x == ("__debug__" : Str)) = false := by decide) (hst : starEach [e] X.env = (false, eval e X.env) :: starEach [] X.env := by rfl) (hpl : (backTo pos (starEach [] X.env)).any (·.1) = false := by rfl) :
    L2N.PMk X (.Call (.Name x p) [e] [] pos) (fun σ H Q => te σ H fun y H1 => ∀ dx, H1 dx = none → Q (.ref C) (some dx) (upd H1 dx (.xd [(f, y)]))) := by
  intro pins s σ H Q I h
  obtain ⟨nm, q, N, bs, bm, sn, sub, ab, col, dd, k0, k1, k2, k3, k5, hC, hbm⟩ := T.cls
  refine wpAny_Call_Name_kw (ld_glob I hg hm ?_ hdb)
  have ha : PA X [e] (tCons te tNil) := pa_cons he pa_nil hst
  let W : List V → Hp → Prop := fun vs H1 => match vs with | [y] => ∀ dx, H1 dx = none → Q (.ref C) (some dx) (upd H1 dx (.xd [(f, y)])) | _ => False
  have h' : tCons te tNil σ H W := h
  refine PySem.W.callWith_K (h₀ := X.base) I.ok.mod.kin T.kC (thn (ha.run pos pins s σ H W I h') fun us s1 ⟨vs, H1, I1, r1, q1⟩ => ⟨I1.kIn, ?_⟩) hst hpl
  match vs, q1 with
  | [y], q1 =>
  show wpAny _ _ (call (.ref C) us) _ _ _
  obtain ⟨hp, g, dr, tk, os⟩ := s1
  have hsz : hp.objs.size ≤ hp.objs.size + 1 := Nat.le_succ _
  have hn : H1 (hp.objs.size + 1) = none := I1.hok.fresh hsz
  have kk : ∀ b o, hp.get? b = some o → ((hp.push (PySem.W.kdv_tup us)).push (PySem.HandSPX.excO C hp.objs.size)).get? b = some o := fun b o e => Heap.get?_push_of_some _ (Heap.get?_push_of_some _ e)
  have hget : ((hp.push (PySem.W.kdv_tup us)).push (PySem.HandSPX.excO C hp.objs.size)).get? (hp.objs.size + 1) = some (PySem.HandSPX.excO C hp.objs.size) := by heap_get
  have I2 : Inv X pins σ (upd H1 (hp.objs.size + 1) (exo (hp.objs.size + 1) C none)) ⟨(hp.push (PySem.W.kdv_tup us)).push (PySem.HandSPX.excO C hp.objs.size), g, dr, tk, os⟩ :=
    I1.laid (t' := tk) (a := hp.objs.size + 1) (o := exo (hp.objs.size + 1) C none) (h' := (hp.push (PySem.W.kdv_tup us)).push (PySem.HandSPX.excO C hp.objs.size)) kk hsz (exo_ok hget)
  have r2 : Vals [V.ref (hp.objs.size + 1), y] (Value.ref (hp.objs.size + 1) :: us) := .cons rfl r1
  have hl : us.length = 1 := by rw [← Paired.length r1] <;> rfl
  have hus : us.length ≤ sizeLine := by rw [hl, PySem.sizeLine_eq]; omega
  have ask : spIni X.K f [V.ref (hp.objs.size + 1), y] (upd H1 (hp.objs.size + 1) (exo (hp.objs.size + 1) C none))
      (fun v H2 => v = .non ∧ ∃ d, H1 d = none ∧ H2 = upd (upd (upd H1 (hp.objs.size + 1) (exo (hp.objs.size + 1) C none)) d (exd d [(f, y)])) (hp.objs.size + 1) (exo (hp.objs.size + 1) C (some d)) ∧ d ≠ hp.objs.size + 1) E0 :=
    ⟨_, C, y, rfl, T, upd_same, no, fun dx n ne => ⟨rfl, dx, by rw [upd_ne ne] at n; exact n, rfl, ne⟩⟩
  refine wpAny_call (PySem.HandSPX.call_own F.excBase_ValueError (fun Y => PySem.HandSPX.refsVE_contains Y bm hbm) (I1.kIn _ _ hC) (PySem.W.looks_findIn I1.kIn iC) (fun self => PySem.W.bind_fn I1.kIn self tI) hus
    (codeAny_mono (F1.run _ X.stack _ _ ⟨Value.ref (hp.objs.size + 1) :: us, []⟩ (Value.ref (hp.objs.size + 1) :: us) _ _ E0 (hr.make C us []) (I2.env0.make C us []) (by
      have z := hb _ (Value.ref (hp.objs.size + 1) :: us) I2.kIn (by rw [List.length_append, List.length_cons, hl] <;> rfl)
      rw [List.append_nil] at z
      exact z) r2 ask) fun r s' hq' => ?_))
  cases r with
  | error er => exact hq'.elim
  | ok fl =>
    cases fl with
    | ret u =>
      obtain ⟨v, H2, os2, bare2, un2, hok2, rv, ev, d, hd1, eH, hne⟩ := hq'
      subst ev
      obtain ⟨h2, g2, d2, t2, os'⟩ := s'
      have ea : H2 (hp.objs.size + 1) = some (exo (hp.objs.size + 1) C (some d)) := by rw [eH]; exact upd_same
      have ed : H2 d = some (exd d [(f, y)]) := by rw [eH, upd_ne hne]; exact upd_same
      obtain ⟨t0, G, J, kG, ge, hoe, na⟩ := mk_end0 (d2 := d2) (t2 := t2) I1 hsz kk un2 hok2 os2 bare2 ea ed hd1
      have eF : upd (del H2 (hp.objs.size + 1)) d (.xd [(f, y)]) = upd H1 d (.xd [(f, y)]) := by
        funext b
        by_cases hb : b = d
        · rw [hb, upd_same, upd_same]
        · rw [upd_ne hb, upd_ne hb]
          by_cases hb2 : b = hp.objs.size + 1
          · rw [hb2, del_same, hn]
          · rw [del_ne hb2, eH, upd_ne hb2, upd_ne hb, upd_ne hb2]
      refine ⟨rv, ?_⟩
      exact ⟨_, _, _, ⟨G, g2, d2, t2, os'⟩, _, .ref C, some d, rfl, J, kG, ge, hoe, ⟨rfl, rfl, fun vs e => by cases e; rfl⟩, rfl, rfl, na, rfl, bare2, raises_own T.exC T.tyC, by rw [eF]; exact q1 d hd1⟩
    | next => exact False.elim hq'
    | brk => exact False.elim hq'
    | cont => exact False.elim hq'
end
end DL

set_option Elab.async false
set_option linter.all false
set_option maxRecDepth 100000
set_option maxHeartbeats 4000000
set_option autoImplicit false
namespace DL
open PySem PySem.Spec PyProof.Rows L2
/-! ### raise C(e), C with a field of its own -/
def dRaiseF (cls : Value) (f : Str) (te : DE) (RX : DXW) : DS := fun _ σ G => te σ G fun y G1 => ∃ G', Sub G' G1 ∧ RX cls [(f, y)] σ G'
section
variable {X : Cx} {W : WX} {e : Expr} {te : DE} {p pos cpos : Pos}
theorem sx_raiseF {x f n1 n2 : Str} {C fI : Addr} {k : Nat} {fd : FuncData} (hc : X.calm = true) (tk : L2N.Takes X W) (T : OexC X.K C) (iC : PySem.W.findIn X.K (.ref C) "__init__" = some (some (.ref fI))) (tI : PySem.W.typeIn X.K (.ref fI) = some (.type "function")) (no : PySem.W.findIn X.K (.ref C) f = some none)
    (F1 : FnOk X.prog X.w X.K X.mg X.base CX0 k fI fd [n1, n2] (spIni X.K f)) (hr : Room (k + 1) X.A) (hb : Binds X.K fd [n1, n2] []) (hg : Gl X x) (hm : X.mg x = some (.ref C)) (he : QE X e te)
    (hdb : (x == ("__debug__" : Str)) = false := by decide) (hst : starEach [e] X.env = (false, eval e X.env) :: starEach [] X.env := by rfl) (hpl : (backTo cpos (starEach [] X.env)).any (·.1) = false := by rfl) :
    QSX X W (.Raise (some (.Call (.Name x p) [e] [] cpos)) none pos) (fun RX => dRaiseF (.ref C) f te RX) := ps_mono (L2N.ps_raise hc tk (pmk_ini T iC tI no F1 hr hb hg hm he hdb hst hpl)) fun D τ H h => by
  obtain ⟨σ, G, N, E, RX, hs, hg, ht, q, qx⟩ := h
  refine ⟨σ, G, N, _, hs, hg, ht, fun y G1 N1 v H1 h1 s1 r1 dx nd => ?_⟩
  obtain ⟨G', sb, h1⟩ := h1
  have s2 := s1.rel.sub sb
  have s3 : Stp X.K H1 N1 G' (upd H1 dx (.xd [(f, v)])) N1 G' := Stp.new0 s2.rel nd
  exact qx _ _ σ G' N1 τ _ (some dx) h1 ((s1.trans s2).trans s3) ((hs.le s1.kp).le s3.kp) ⟨by simp, s2.rel.free nd, _, upd_same, .cons ⟨rfl, r1.le s3.kp⟩ .nil⟩
end
/-! ### a try whose last clause keeps the exception's name: except A: .. except C as e: .. -/
section
variable {X : Cx} {body : List Stmt} {hds : List ExceptHandler} {l : List (Value × (Addr → Value → Option Addr → TS))} {pos np pos' : Pos} {tb : WX → TS} {x n : Str} {c : Value} {i : Nat} {suite : List Stmt} {b₀ : Stmt} {ts : Addr → Value → Option Addr → TS}
end
/-! ### by data: the last clause is  except C as e: y = ("..", e.f) -/
section
variable {X : Cx} {x n y m f : Str} {C : Addr} {i j jc : Nat} {body : List Stmt} {h1 h2 : ExceptHandler} {l : List (Value × DS)} {np pos pos' py pe pa pc pt pat : Pos} {x1 : Nat} {tb : DXW → DS}
end
section
variable {K : PySem.W.Frag} {E : DEnds} {σ : Sd} {G : Gp} {l : List (Value × DS)} {C : Addr} {i j : Nat} {m f : Str} {tbX : DXW → DS} {RX : DXW} {te : DE} {cls : Value}
theorem x_raiseF : dRaiseF cls f te RX E σ G = te σ G fun y G1 => ∃ G', Sub G' G1 ∧ RX cls [(f, y)] σ G' := rfl
end
end DL

set_option Elab.async false
set_option linter.all false
set_option maxRecDepth 100000
set_option maxHeartbeats 4000000
set_option autoImplicit false
namespace DL
open PySem PySem.Spec PyProof.Rows L2
/-! ### methods that may raise -/
section
variable {X : Cx} {CX : CXT} {k : Nat} {g C : Addr} {fd : FuncData} {ps : List Str} {sp : Sp} {E : L2.St → XK} {m : Str} {pos apos : Pos} {e o : Expr} {es : List Expr} {ta : TE} {t : TA}
end
section
variable {X : Cx} {W : WX} {k : Nat} {g C : Addr} {fd : FuncData} {ps : List Str} {sp : DSpX} {m : Str} {pos apos : Pos} {e o : Expr} {es : List Expr} {ta : DE} {t : DA}
end
end DL

set_option Elab.async false
set_option linter.all false
set_option maxRecDepth 100000
set_option maxHeartbeats 4000000
set_option autoImplicit false
namespace DL
open PySem PySem.Spec PyProof.Rows L2
/-! ### an exception that is made, not raised -/
section
variable {X : Cx} {e : Expr}
/-- e.f of an exception that is held -/
def dXfK (C : Addr) (f : Str) (te : DE) : DE := fun σ G R => te σ G fun x G1 => ∃ a fs v, x = .ref a ∧ G1 a = some (.ex (.ref C) fs) ∧ fs.lookup f = some v ∧ R v G1
theorem rkv_look_some {K : PySem.W.Frag} {H : Hp} {N : Ns} {f : Str} {v : D} : ∀ {fs : List (Str × D)} {fs' : List (Str × V)}, RKV K H N fs fs' → fs.lookup f = some v → ∃ u, fs'.lookup f = some u ∧ RD K H N v u
  | [], _, _, h => by cases h
  | (g, d) :: fs, fs', r, e => by
    cases r with
    | @cons _ z _ zr h rr =>
      obtain ⟨g', u⟩ := z
      obtain ⟨h1, h2⟩ := h
      dsimp only at h1 h2
      subst h1
      rw [List.lookup_cons] at e ⊢
      cases c : (f == g) with
      | true => rw [c] at e; cases e; exact ⟨u, rfl, h2⟩
      | false => rw [c] at e; exact rkv_look_some rr e
theorem qe_xfK {C : Addr} {f : Str} {te : DE} {pos : Pos} (T : XfC X.K C) (no : PySem.W.findIn X.K (.ref C) f = some none) (he : QE X e te) (hb : attributeBase e f X.env (eval e X.env) = eval e X.env := by rfl) : QE X (.Attribute e f pos) (dXfK C f te) := by
  refine ⟨fun pins s τ H Q I h => ?_⟩
  obtain ⟨σ, G, N, R, hs, hg, ht, q⟩ := h
  let W : V → Hp → Prop := fun v H1 => ∃ y G1 N1, (∃ a fs v0, y = D.ref a ∧ G1 a = some (.ex (.ref C) fs) ∧ fs.lookup f = some v0 ∧ R v0 G1) ∧ Stp X.K H N G H1 N1 G1 ∧ RD X.K H1 N1 y v
  refine attr_of hb (thn (he.run pins s τ H W I ⟨σ, G, N, _, hs, hg, ht, fun y G1 N1 v H1 h1 s1 r1 => ⟨y, G1, N1, h1, s1, r1⟩⟩) fun u s1 hh => ?_)
  obtain ⟨x, H1, I1, rx, y, G1, N1, ⟨a, fs, v, rfl, ga, l, hR⟩, s2, r1⟩ := hh
  cases (show x = V.ref a from r1)
  obtain rfl : u = Value.ref a := rx
  obtain ⟨_, d, hH, xd⟩ := s2.rel a _ ga
  cases d with
  | none => rw [show fs = [] from xd] at l; cases l
  | some dd =>
    obtain ⟨_, fs', hp, rkv⟩ := xd
    obtain ⟨uv, hl', ruv⟩ := rkv_look_some rkv l
    obtain ⟨⟨oe, vs, hge, hc, hdn, hf⟩, _⟩ := I1.hok a _ hH
    have hx : ObjOk X.prog X.w H1 s1.heap dd (.xd fs') := I1.hok dd _ hp
    obtain ⟨mA, hns, hr⟩ := hx
    obtain ⟨od, ho, hl⟩ := lookIn_ns hns
    obtain ⟨w0, hu, ru⟩ := RelO.some_of (v := uv) (o := mA f) (by rw [← hl']; exact hr f)
    have J : PySem.W.InstAt s1.heap a oe C (some od) := ⟨hge, hc, by unfold PySem.W.notCls; rw [hf] <;> rfl, by rw [hdn]; exact ho⟩
    exact PySem.HandSPX.exc_get I1.kIn J T.ga T.gg T.exC (PySem.W.findObj_own T.hdC no rfl (by rw [hl, hu])) (handed_of ru) ⟨uv, H1, I1.tok _, ru, q _ _ _ _ _ hR s2 ruv⟩
theorem x_xfK {C : Addr} {f : Str} {te : DE} {σ : Sd} {G : Gp} {R : DK} : dXfK C f te σ G R = te σ G fun x G1 => ∃ a fs v, x = .ref a ∧ G1 a = some (.ex (.ref C) fs) ∧ fs.lookup f = some v ∧ R v G1 := rfl
end
end DL

set_option Elab.async false
set_option linter.all false
set_option maxRecDepth 100000
set_option maxHeartbeats 4000000
set_option autoImplicit false
/-! ### an exception of an own class made by names: C(f = e) -/
namespace PySem.DLX
open PySem PySem.W PySem.Calls PyProof.Rows PySem.HandSPX Builtin
section
variable {M : Model} {prog : Program} {w : World} {A : Around} {E : Value → Shared → Prop} {R : Result → Shared → Prop} {h : Heap} {g : Array GenState} {d : Drawn} {t : Nat} {os : OsState}
variable {nm q : Str} {C N : Addr} {bs bm bmB : List Value} {hdct : Bool} {sn : List Str} {sub : List Value} {ab : Bool} {col : Option Bool} {dd : Option Addr} {k0 k1 k2 k3 k5 : Option Value} {B newId initId : String} {kw : List (Str × Value)}
end
end PySem.DLX
namespace DL
open PySem PySem.Spec PyProof.Rows L2
section
variable {X : Cx} {kws : List Keyword} {tk : TA} {p pos : Pos}
end
end DL

set_option Elab.async false
set_option linter.all false
set_option maxRecDepth 100000
set_option maxHeartbeats 4000000
set_option autoImplicit false
/-! ### a class made by names, its keyword-only parameter by its default: C(k = v, ..) -/
namespace DL
open PySem PySem.Spec PyProof.Rows L2
section
variable {X : Cx} {C f : Addr} {k : Nat} {fd : FuncData} {ps ks : List Str} {sp : DSp} {x : Str} {p pos : Pos} {kws : List Keyword} {tk : DA} {js : List Nat}
end
end DL

set_option Elab.async false
set_option linter.all false
set_option maxRecDepth 100000
set_option maxHeartbeats 4000000
set_option autoImplicit false
/-! ### f() -/
namespace DL
open PySem PySem.Spec PyProof.Rows L2
section
variable {X : Cx} {f : Addr} {k : Nat} {fd : FuncData} {ps : List Str} {sp : DSp} {x : Str} {p pos : Pos}
end
end DL

set_option Elab.async false
set_option linter.all false
set_option maxRecDepth 100000
set_option maxHeartbeats 4000000
set_option autoImplicit false
/-! ### a def called within an except suite that raises nothing and asks nothing of what is handled -/
namespace DL
open PySem PySem.Spec PyProof.Rows L2
/-- what such a def does -/
structure FnQ (P : Program) (w : World) (K : PySem.W.Frag) (mg : Str → Option Value) (base : Heap) (k : Nat) (f : Addr) (fd : FuncData) (ps : List Str) (sp : DSp) : Prop where
  len : ∀ ds G R, sp ds G R → ds.length = ps.length
  run : ∀ (A : Around) (outer : List Env) (s : Shared) (H : Hp) (args : Args) (us : List Value) (vs : List V) (Q : VK), L2H.RoomH k A → Env0 P w K mg base A outer s H → BindsTo s fd args (ps.zip us) → Vals vs us → upSp K sp vs H Q E0 →
    codeAny (model P w) A (.call (.ref f) args) (CR CX0 outer P w H s Q E0) s
/-- its body's context -/
def cxQ (P : Program) (w : World) (K : PySem.W.Frag) (mg : Str → Option Value) (base : Heap) (N : List Str) (qual : Str) (scope : Scope) (f : Addr) (cd : Value) (A : Around) (outer : List Env) (s : Shared) (H : Hp) : Cx :=
  { cxOf CX0 P w K mg base N qual scope f cd A outer s H E0 with calm := false }
theorem inv_hot {P : Program} {w : World} {K : PySem.W.Frag} {mg : Str → Option Value} {base : Heap} {N : List Str} {qual : Str} {scope : Scope} {f : Addr} {cd : Value} {A : Around} {outer : List Env} {s s1 : Shared} {H : Hp} {σ : L2.St}
    (I : Inv (cxOf CX0 P w K mg base N qual scope f cd { A with handled := none } outer s H E0) [] σ H s1) : Inv (cxQ P w K mg base N qual scope f cd A outer s H) [] σ H s1 :=
  ⟨⟨I.ok.mod, I.ok.kind, I.ok.glob, I.ok.blt, I.ok.above, I.ok.inj, I.ok.has, I.ok.cab, (fun z => Bool.noConfusion (show false = true from z)), I.ok.frames, I.ok.stk, I.ok.exf, I.ok.bs, I.ok.bsz, I.ok.noex, I.ok.exfs, I.ok.funs, I.ok.frf⟩,
    I.os, I.bare, I.base, I.loc, I.cell, I.free, I.freeC, I.pin, I.hok, I.len⟩
theorem fun_okQ {P : Program} {w : World} {K : PySem.W.Frag} {mg : Str → Option Value} {base : Heap} {x qual : Str} {st : Stmt} {f : Addr} {fd : FuncData} {M ps : List Str} {k : Nat} {sp : DSp} (F : Fun K x qual st f fd) (S : FnScope M ps (defScope st)) (len : ∀ ds G R, sp ds G R → ds.length = ps.length)
    (hbody : ∀ (cdv : Value) (A : Around) (outer : List Env) (s : Shared) (H : Hp), L2H.RoomH k (A.deeper (envOfC qual (defScope st) s.heap.objs.size f cdv)) →
      ∃ t, QSs (cxQ P w K mg base M qual (defScope st) f cdv A outer s H).nox (defBody st) t ∧ ∀ (ds : List D) (G : Gp) (R : DK), sp ds G R → t { nx := fun _ G1 => ∃ G', Sub G' G1 ∧ R .non G', rt := R } (startD M.length ds) G) : FnQ P w K mg base (k + 1) f fd ps sp := by
  obtain ⟨oc, od, kV, doc, pm, an, cdv, ct, osl, rfl, lk, hcd⟩ := F.ex
  refine ⟨len, fun A outer s H args us vs Q hr e0 hb r hsp => ?_⟩
  obtain ⟨ds, G, N, R, r1, rg, h1, q⟩ := hsp
  have hl : vs.length = ps.length := by rw [← r1.length]; exact len ds G R h1
  have KX : K.In s.heap := e0.mod.kin.keeps fun b o e => (e0.bs b o e).1
  have e1 : Env0 P w K mg base { A with handled := none } outer s H := ⟨e0.frames, e0.mod, e0.bs, e0.bsz, e0.funs, e0.frf, e0.hok, e0.bare⟩
  refine codeAny_call_function hr.depth (KX _ _ lk) rfl S.co S.gen rfl (PySem.W.codeRec_of KX hcd) (hb _ _ _ _ ?_)
  refine wpAny_newFunctionEnv_cells S.kind (fun ⟨n, v⟩ hy => ?_) fun env he s1 z => ?_
  · rcases S.par n (List.of_mem_zip hy).1 with p | p
    · exact .inl p
    · exact .inr ⟨p, PySem.W.cellsFrom_some _ _ _ (.inl p)⟩
  subst he
  refine ⟨(e0.mod.nolimit.keeps fun b o e => (e0.bs b o e).1).keeps z.toInCall.keep, codeAny_func ?_⟩
  obtain ⟨t, ht, hq⟩ := hbody cdv A outer s H (hr.deeper _)
  have I := inv_hot (A := A) (inv_start (CX := CX0) (f := f) (cd := cdv) (E := E0) (A := { A with handled := none }) S rfl e1 hl r z)
  have go := (PSs.nox (X := cxQ P w K mg base M qual (defScope st) f cdv A outer s H) ht).run [] s1 (L2.start M vs) H { nx := fun _ H' => Q .non H', rt := Q } I ⟨startD M.length ds, G, N, _, RSt.begin r1, rg, hq ds G R h1, ⟨fun σ' G' N' τ' H' h s' r => by
      obtain ⟨G2, sb, h⟩ := h
      exact q _ _ _ _ _ h (s'.trans (s'.rel.sub sb)) RD.non, q, fun _ _ _ _ _ h => h.elim, fun _ _ _ _ _ h => h.elim⟩⟩
  refine wpAny_mono go (fun fl s' hs => ?_) fun e s' hs => hs
  cases fl with
  | ret u =>
    obtain ⟨v, σ', H', J, rv, qv⟩ := hs
    exact ⟨v, H', J.os, J.bare, J.base, J.hok, rv, qv⟩
  | next =>
    obtain ⟨σ', H', J, qv⟩ := hs
    exact ⟨V.non, H', J.os, J.bare, J.base, J.hok, rfl, qv⟩
  | brk => obtain ⟨_, _, _, z⟩ := hs; exact z.elim
  | cont => obtain ⟨_, _, _, z⟩ := hs; exact z.elim
/-! ### its call -/
section
variable {X : Cx} {f : Addr} {k : Nat} {fd : FuncData} {ps : List Str} {sp : DSp} {x : Str} {p pos : Pos} {e : Expr} {es : List Expr} {t : DA}
theorem pe_callQ {ta : TA} (F : FnQ X.prog X.w X.K X.mg X.base k f fd ps sp) (hr : L2H.RoomH k X.A) (hg : Gl X x) (hm : X.mg x = some (.ref f)) (hk : PySem.W.keepIn X.K (.ref f) = true) (hb : Binds X.K fd ps []) (ha : PA X (e :: es) ta)
    (hdb : (x == ("__debug__" : Str)) = false := by decide) (he : starEach (e :: es) X.env = (false, eval e X.env) :: starEach es X.env := by rfl) (hpl : (backTo pos (starEach es X.env)).any (·.1) = false := by rfl) :
    PE X (.Call (.Name x p) (e :: es) [] pos) (fun τ H Q => ta τ H fun vs H1 => upSp X.K sp vs H1 Q E0) := by
  refine ⟨fun pins s τ H Q I h => wpAny_Call_Name_kw (ld_glob I hg hm ?_ hdb)⟩
  refine PySem.W.callWith_K (h₀ := X.base) I.ok.mod.kin hk (thn (ha.run pos pins s τ H _ I h) fun us s1 ⟨vs, H1, I1, r, q⟩ => ⟨I1.kIn, ?_⟩) he hpl
  have hl : us.length = ps.length := by
    rw [← r.length]
    obtain ⟨ds, G, N, R, r1, _, h1, _⟩ := q
    rw [← r1.length]; exact F.len ds G R h1
  have b := hb s1 us I1.kIn (by rw [List.append_nil]; exact hl)
  rw [List.append_nil] at b
  refine wpAny_call (codeAny_mono (F.run X.A X.stack s1 H1 ⟨us, []⟩ us vs Q hr I1.env0 b r q) fun r' s' hq => ?_)
  cases r' with
  | error er => exact hq.elim
  | ok fl =>
    cases fl with
    | ret u => exact I1.after hq
    | next => exact hq.elim
    | brk => exact hq.elim
    | cont => exact hq.elim
theorem qe_callQ (F : FnQ X.prog X.w X.K X.mg X.base k f fd ps sp) (hr : L2H.RoomH k X.A) (hg : Gl X x) (hm : X.mg x = some (.ref f)) (hk : PySem.W.keepIn X.K (.ref f) = true) (hb : Binds X.K fd ps []) (ha : QA X (e :: es) t)
    (hdb : (x == ("__debug__" : Str)) = false := by decide) (he : starEach (e :: es) X.env = (false, eval e X.env) :: starEach es X.env := by rfl) (hpl : (backTo pos (starEach es X.env)).any (·.1) = false := by rfl) :
    QE X (.Call (.Name x p) (e :: es) [] pos) (dCall sp t) := pe_mono (pe_callQ F hr hg hm hk hb ha hdb he hpl) fun τ H Q h => by
  obtain ⟨σ, G, N, R, hs, hg, ht, q⟩ := h
  exact ⟨σ, G, N, _, hs, hg, ht, fun ds G1 N1 vs H1 h1 s1 r1 => ⟨ds, G1, N1, R, r1, s1.rel, h1, q.le s1⟩⟩
end
end DL

set_option Elab.async false
set_option linter.all false
set_option maxRecDepth 100000
set_option maxHeartbeats 4000000
set_option autoImplicit false
/-! ### try: .. except C as e: a suite that has what it caught at hand -/
namespace DL
open PySem PySem.Spec PyProof.Rows L2
/-- into the suite, what is caught told of -/
theorem Inv.hotIn {X : Cx} {pins : List (Addr × Obj)} {σ : L2.St} {H : Hp} {s : Shared} {a : Addr} (I : Inv X pins σ H s) : Inv (X.suite a (X.pn ++ pins)) [] σ H s :=
  ⟨I.ok.suite _ _, I.os, I.bare, I.base, I.loc, I.cell, I.free, I.freeC, fun p hp => I.pin p (by rw [List.append_nil] at hp; exact hp), I.hok, I.len⟩
theorem Inv.hotOut {X : Cx} {pins : List (Addr × Obj)} {σ : L2.St} {H : Hp} {s : Shared} {a : Addr} (I : Inv (X.suite a (X.pn ++ pins)) [] σ H s) (ok : X.Ok) : Inv X pins σ H s :=
  ⟨ok, I.os, I.bare, I.base, I.loc, I.cell, I.free, I.freeC, fun p hp => I.pin p (by rw [List.append_nil]; exact hp), I.hok, I.len⟩
def wHot (K : PySem.W.Frag) (c : Value) (i : Nat) (ts : TS) (D : Ends) : WX := fun cls d σ H =>
  PySem.W.exmOne K cls c = some true ∧ ∀ a, H a = none → ts { nx := fun σ' H' => D.nx (σ'.set i none) H', rt := fun _ _ => False, bk := fun _ _ => False, ct := fun _ _ => False } (σ.set i (some (.ref a))) (upd H a (ExK cls d a))
section
variable {X : Cx} {x n : Str} {c : Value} {i : Nat} {body suite : List Stmt} {b₀ : Stmt} {np pos pos' : Pos} {tb : WX → TS} {ts : TS}
theorem ps_tryHot (hs : X.stack = X.env :: X.outer) (hf : X.env.frame = some X.env.locals) (hex : X.ex = []) (hN : X.N.Nodup) (hi : X.N[i]? = some n) (hln : X.env.kindOf n = some .local) (hc : Names X x c)
    (hb : ∀ (W : WX) (pn : List (Addr × Obj)) (xe : Value → Shared → Prop), L2N.Takes (X.tr pn xe) W → PassesOwn (model X.prog X.w) X.A X.env xe → PSs (X.tr pn xe) body (tb W))
    (hsu : ∀ (a : Addr) (pn : List (Addr × Obj)), PSs (X.suite a pn) (b₀ :: suite) ts) :
    PS X (.Try body [.ExceptHandler (some (.Name x np)) (some n) (b₀ :: suite) pos'] [] [] pos) (fun D σ H => tb (wHot X.K c i ts D) D σ H) := by
  refine ⟨fun pins s σ H D I h => wpAny_Try_except (wpAny_mono ((hb (wHot X.K c i ts D) (X.pn ++ pins) _ ?kept PassesOwn.looking).run [] s σ H D (I.toTry _) h) (fun f s1 hsp => ?_) (fun e s1 he => he))⟩
  case kept =>
    have ok := I.ok
    have hfr : X.A.frames = some (X.env :: X.outer) := by rw [ok.frames, hs]
    rintro u s' ⟨a, B, sI, pins', σ', H', cls, d, rfl, J', nb, up, sky, na, os, ag, hb1, hyes⟩
    have J : Inv X pins σ' H' sI := J'.ofTry ok
    refine L2N.Sky.land L2N.Zn.steady hfr hf (by rw [← hs]; exact sky) fun h3 fl3 up3 => ?_
    have J3 : Inv X pins σ' H' { s' with heap := h3 } := J.landed nb fl3.1 (up.trans up3) os ag
    obtain ⟨oe3, vs3, he3, hz3, hd3⟩ := fl3.there
    have nfr : a ∉ frs (X.env :: X.outer) := fun hm => by
      obtain ⟨_, o', e', hnf⟩ := fl3.2.2.1.mem hm
      rw [he3] at e'; cases e'
      exact hnf _ hd3
    have nL : a ≠ X.env.locals := fun z => nfr (List.mem_filterMap.mpr ⟨X.env, List.mem_cons_self, by rw [hf, z]⟩)
    have nF : a ∉ X.fs := fun hm => by
      obtain ⟨e, he, q⟩ := List.mem_filterMap.mp hm
      exact nfr (List.mem_filterMap.mpr ⟨e, List.mem_cons_of_mem _ he, q⟩)
    have nI : sI.heap.get? a = none := by
      cases e : sI.heap.get? a with
      | none => rfl
      | some o => exact absurd fl3.2.1 (by rw [nb a o e (by rw [hs]; exact nfr)]; simp)
    have n0 : X.s_0.heap.get? a = none := by
      cases e : X.s_0.heap.get? a with
      | none => rfl
      | some o =>
        obtain ⟨o', e'⟩ := J.base.there a o e (by rw [hex]; exact fun z => nomatch z)
        rw [nI] at e'; cases e'
    have nP : ∀ p ∈ X.pn ++ pins, p.1 ≠ a := fun p hp z => by
      have := (J.pin p hp).1
      rw [z, nI] at this; cases this
    have S3 := J3.suite he3 hd3 na nL nF
    refine wpAny_handleBy_cons (codeAny_handlers_test ?_) (by intro q; cases q)
    have LM := PySem.W.exm_one (M := model X.prog X.w) (J3.kIn) (show PySem.W.Looks (model X.prog X.w) h3 (typeOf (.ref a)) cls from fun A Q E s k q => wpAny_typeOf_ref (k _ _ he3) (by rw [hz3.1]; exact q)) hb1
    have test : ∀ {Q : Value → Shared → Prop} {E : Value → Shared → Prop}, Q c { s' with heap := h3 } → wpAny (model X.prog X.w) (X.A.mark (some (.ref a))) (eval (.Name x np) X.env) Q E { s' with heap := h3 } := fun {Q E} q => by
      obtain ⟨hg, hdbg, hm | ⟨hm, hv, hnn⟩⟩ := hc
      · exact ld_glob (X := X.suite a ((a, oe3) :: (X.pn ++ pins))) S3 hg hm q hdbg
      · exact ld_blt (X := X.suite a ((a, oe3) :: (X.pn ++ pins))) S3 hg hm hv q hnn hdbg
    refine test (LM.here (codeAny_handlers_suite_as (HandSPX.lands_againZ fl3 fun h4 fl4 up4 => ?_)))
    have J4 : Inv X pins σ' H' { s' with heap := h4 } := J.landed nb fl4.1 ((up.trans up3).trans up4) os ag
    obtain ⟨oe4, vs4, he4, hz4, hd4⟩ := fl4.there
    have T4 : Inv X pins σ' (upd H' a (ExK cls d a)) { s' with heap := h4 } := inv_told (o := ExK cls d a) J4 na n0 nL (fun v ⟨o, h1, h2⟩ => by rw [he4] at h1; cases h1; rw [hd4] at h2; cases h2) nP (exK_ok he4 hz4.1 hz4.2.1 hd4)
    refine store_ok (X := X.suite a (X.pn ++ pins)) (v := .ref a) (Inv.hotIn T4) hN hi (.inl hln) rfl (fun s5 S5 => ?_) (.inr hln)
    refine wpAny_mono ((hsu a (X.pn ++ pins)).run [] s5 _ _ _ S5 (hyes a na)) (fun f s6 hsp => ?_) (fun _ _ z => False.elim z)
    cases f with
    | next =>
      obtain ⟨σ6, H6, S6, q6⟩ := hsp
      exact gone_ok (Inv.hotOut S6 ok) hN hi hln fun s7 J7 => ⟨_, _, J7, q6⟩
    | brk => obtain ⟨_, _, _, z⟩ := hsp; exact z.elim
    | cont => obtain ⟨_, _, _, z⟩ := hsp; exact z.elim
    | ret u => obtain ⟨_, _, _, _, _, z⟩ := hsp; exact z.elim
  have ok := I.ok
  cases f with
  | next =>
    obtain ⟨σ', H', J', q⟩ := hsp
    exact wpAny_execs_nil ⟨σ', H', J'.ofTry ok, q⟩
  | brk =>
    obtain ⟨σ', H', J', q⟩ := hsp
    exact ⟨σ', H', J'.ofTry ok, q⟩
  | cont =>
    obtain ⟨σ', H', J', q⟩ := hsp
    exact ⟨σ', H', J'.ofTry ok, q⟩
  | ret u =>
    obtain ⟨v, σ', H', J', r, q⟩ := hsp
    exact ⟨v, σ', H', J'.ofTry ok, r, q⟩
end
/-! ### by data -/
def hotX (K : PySem.W.Frag) (c : Value) (i : Nat) (ts : DS) (E : DEnds) : DXW := fun cls fs σ G => PySem.W.exmOne K cls c = some true ∧ ∀ a, G a = none → ts { nx := fun σ' G' => E.nx (σ'.set i none) G', rt := fun _ _ => False } (σ.set i (some (.ref a))) (gup G a (.ex cls fs))
theorem hot_up {K : PySem.W.Frag} {H : Hp} {N : Ns} {G : Gp} {E : DEnds} {D : Ends} {c : Value} {i : Nat} {ts : DS} (q : UpE K H N G E D) : UpX K H N G (hotX K c i ts E) (wHot K c i (upS K ts) D) := fun cls fs σ' G' N' τ' H' d r s rs xd => by
  obtain ⟨e, h⟩ := r
  refine ⟨e, fun a na => ?_⟩
  have x1 : XdOf K H' N' d fs := by cases d with | none => exact xd | some p => exact ⟨xd.1, xd.2.2⟩
  have kp := Kp.new (N := N') (u := ExK cls d a) na
  have st : Stp K H' N' G' (upd H' a (ExK cls d a)) (nadd N' a) (gup G' a (.ex cls fs)) := Stp.new s.rel na ⟨d, upd_same, x1.le kp⟩
  exact ⟨_, _, _, _, (rs.le kp).set (RD.ref a) i, st.rel, h a (s.rel.free na), ⟨fun σ2 G2 N2 τ2 H2 h2 s2 r2 => q.nx _ _ _ _ _ h2 ((s.trans st).trans s2) (r2.unset i), fun _ _ _ _ _ z => z.elim, fun _ _ _ _ _ z => z.elim, fun _ _ _ _ _ z => z.elim⟩⟩
def dTryH (K : PySem.W.Frag) (tb : DXW → DS) (c : Value) (i : Nat) (ts : DS) : DS := fun E σ G => tb (hotX K c i ts E) E σ G
section
variable {X : Cx} {x n : Str} {c : Value} {i : Nat} {body suite : List Stmt} {b₀ : Stmt} {np pos pos' : Pos} {tb : DXW → DS} {ts : DS}
/-- try: .., except C as e: a suite -/
theorem qs_tryHot (hs : X.stack = X.env :: X.outer) (hf : X.env.frame = some X.env.locals) (hex : X.ex = []) (hN : X.N.Nodup) (hi : X.N[i]? = some n) (hln : X.env.kindOf n = some .local) (hc : Names X x c)
    (hb : ∀ (W : WX) (pn : List (Addr × Obj)) (xe : Value → Shared → Prop), L2N.Takes (X.tr pn xe) W → PassesOwn (model X.prog X.w) X.A X.env xe → QSsX (X.tr pn xe) W body tb)
    (hsu : ∀ (a : Addr) (pn : List (Addr × Obj)), QSs (X.suite a pn) (b₀ :: suite) ts) :
    QS X (.Try body [.ExceptHandler (some (.Name x np)) (some n) (b₀ :: suite) pos'] [] [] pos) (dTryH X.K tb c i ts) := ps_mono (ps_tryHot (tb := fun W => upSX X.K W tb) (ts := upS X.K ts) hs hf hex hN hi hln hc hb hsu) fun D τ H h => by
  obtain ⟨σ, G, N, E, hs, hg, ht, q⟩ := h
  exact ⟨σ, G, N, E, _, hs, hg, ht, q, hot_up q⟩
end
theorem x_tryH {K : PySem.W.Frag} {tb : DXW → DS} {c : Value} {i : Nat} {ts : DS} {E : DEnds} {σ : Sd} {G : Gp} : dTryH K tb c i ts E σ G = tb (hotX K c i ts E) E σ G := rfl
theorem hot_go {K : PySem.W.Frag} {c cls : Value} {i : Nat} {ts : DS} {E : DEnds} {σ : Sd} {G : Gp} {fs : List (Str × D)} (e : PySem.W.exmOne K cls c = some true) (h : ∀ a, G a = none → ts { nx := fun σ' G' => E.nx (σ'.set i none) G', rt := fun _ _ => False } (σ.set i (some (.ref a))) (gup G a (.ex cls fs))) : hotX K c i ts E cls fs σ G := ⟨e, h⟩
/-- the room within the suite -/
theorem roomH_suite {X : Cx} {k : Nat} {a : Addr} {pn : List (Addr × Obj)} (hr : Room k X.A) : L2H.RoomH k (X.suite a pn).A := ⟨hr.dp, hr.un⟩
end DL

set_option Elab.async false
set_option linter.all false
set_option maxRecDepth 100000
set_option maxHeartbeats 4000000
set_option autoImplicit false
/-! ### xs[a:b] = ys -/
namespace DL
open PySem PySem.Spec PyProof.Rows L2
def gSubSl (to : TE) (tl th : TO) : TG := fun v σ H Q => to σ H fun x H1 => tl σ H1 fun lo H2 => th σ H2 fun hi H3 => ∃ (p b : Addr) (xs ys : List V) (a c : Int), x = .ref p ∧ v = .ref b ∧ p ≠ b ∧ H3 p = some (.lst xs) ∧ H3 b = some (.lst ys) ∧ lo = some a ∧ hi = some c ∧ 0 ≤ a ∧ a ≤ c ∧ c ≤ xs.length ∧ xs.length + ys.length ≤ sizeLine ∧
  Q σ (upd H3 p (.lst (xs.take a.toNat ++ ys ++ xs.drop c.toNat)))
def dSubSl (to : DE) (tl th : DO) : DG := fun v σ G R => to σ G fun x G1 => tl σ G1 fun lo G2 => th σ G2 fun hi G3 => ∃ (p b : Addr) (xs ys : List D) (a c : Int), x = .ref p ∧ v = .ref b ∧ p ≠ b ∧ G3 p = some (.lst xs) ∧ G3 b = some (.lst ys) ∧ lo = some a ∧ hi = some c ∧ 0 ≤ a ∧ a ≤ c ∧ c ≤ xs.length ∧ xs.length + ys.length ≤ sizeLine ∧
  R σ (gup G3 p (.lst (xs.take a.toNat ++ ys ++ xs.drop c.toNat)))
section
variable {X : Cx} {o : Expr} {lo hi : Option Expr} {p2 pos : Pos}
theorem pg_subSl {to : TE} {tl th : TO} (ho : PE X o to) (hl : PO X lo tl) (hu : PO X hi th)
    (ha : ∀ v, assign (.Subscript o (.Slice lo hi none p2) pos) X.env v = (do
      let ov ← holding [v] (eval o X.env)
      let iv ← holding [v, ov] (eval (.Slice lo hi none p2) X.env)
      standAt pos
      holding [v, ov, iv] (setItem ov iv v)
      release [iv, v, ov] []) := by intro _; rfl) : PG X (.Subscript o (.Slice lo hi none p2) pos) (gSubSl to tl th) := by
  refine ⟨fun pins s σ H v u Q I r h => ?_⟩
  rw [ha]
  refine wpAny_bind (wpAny_holding (thn (ho.run pins s σ H _ I h) fun ov s1 ⟨x, H1, I1, r1, q1⟩ => ?_))
  refine wpAny_bind (wpAny_holding (wpAny_Slice (thn (hl.run pins s1 σ H1 _ I1 q1) fun vl s2 ⟨l, H2, I2, pl, q2⟩ => thn (hu.run pins s2 σ H2 _ I2 q2) fun vu s3 ⟨k, H3, I3, pu, q3⟩ => ?_)))
  rw [evalPart_none]
  refine wpAny_pure ?_
  obtain ⟨p, b, xs, ys, a, c, rfl, rfl, ne, e1, e2, rfl, rfl, h0, h1, h2, h3, q⟩ := q3
  have I4 : Inv X pins σ H3 { s3 with heap := s3.heap.push { cls := .type "slice", data := .fields #[vl, vu, .none] } } := I3.kept (t' := s3.toks) fun b ob q => Heap.get?_push_of_some _ q
  obtain rfl : ov = Value.ref p := r1
  obtain rfl : u = Value.ref b := r
  cases pl with
  | int _ ta =>
    cases pu with
    | int _ tc =>
      refine wpAny_bind (wpAny_standAt (wpAny_bind (wpAny_holding (set_slice I4 e1 e2 ne (Heap.IsSliceOf.new ..) ⟨ta, rfl⟩ ⟨tc, rfl⟩ h0 h1 h2 h3 fun s' I' => ?_))))
      exact wpAny_release ⟨σ, _, I', q⟩
theorem qg_subSl {to : DE} {tl th : DO} (ho : QE X o to) (hl : QO X lo tl) (hu : QO X hi th)
    (ha : ∀ v, assign (.Subscript o (.Slice lo hi none p2) pos) X.env v = (do
      let ov ← holding [v] (eval o X.env)
      let iv ← holding [v, ov] (eval (.Slice lo hi none p2) X.env)
      standAt pos
      holding [v, ov, iv] (setItem ov iv v)
      release [iv, v, ov] []) := by intro _; rfl) : QG X (.Subscript o (.Slice lo hi none p2) pos) (dSubSl to tl th) := pg_mono (pg_subSl ho hl hu ha) fun v τ H Q h => by
  obtain ⟨d, σ, G, N, R, rd, rs, rg, h0, q⟩ := h
  refine ⟨σ, G, N, _, rs, rg, h0, fun x G1 N1 v1 H1 h1 s1 r1 => ?_⟩
  refine ⟨σ, G1, N1, _, rs.le s1.kp, s1.rel, h1, fun l G2 N2 H2 h2 s2 => ?_⟩
  refine ⟨σ, G2, N2, _, (rs.le s1.kp).le s2.kp, s2.rel, h2, fun k G3 N3 H3 h3 s3 => ?_⟩
  obtain ⟨p, b, xs, ys, a, c, rfl, rfl, ne, e1, e2, rfl, rfl, g0, g1, g2, g3, hR⟩ := h3
  obtain ⟨n1, us, hv1, ra⟩ := s3.rel p _ e1
  obtain ⟨n2, vs, hv2, rb⟩ := s3.rel b _ e2
  have s13 := (s1.trans s2).trans s3
  have kw : Kp H3 N3 (upd H3 p (.lst (us.take a.toNat ++ vs ++ us.drop c.toNat))) N3 := Kp.write n1 hv1 rfl rfl
  refine ⟨p, b, us, vs, a, c, r1.of_ref, rd.of_ref, ne, hv1, hv2, rfl, rfl, g0, g1, by rw [← ra.length]; exact g2, by rw [← ra.length, ← rb.length]; exact g3, ?_⟩
  have st := Stp.write (u := .lst (us.take a.toNat ++ vs ++ us.drop c.toNat)) (o := .lst (xs.take a.toNat ++ ys ++ xs.drop c.toNat)) s3.rel e1 hv1 rfl rfl ⟨_, upd_same, (((ra.take _).app rb).app (ra.drop _)).le kw⟩
  exact q _ _ _ _ _ hR (s13.trans st) ((rs.le s13.kp).le st.kp)
end
theorem x_subSl {to : DE} {tl th : DO} {v : D} {σ : Sd} {G : Gp} {R : Sd → Gp → Prop} : dSubSl to tl th v σ G R = to σ G fun x G1 => tl σ G1 fun lo G2 => th σ G2 fun hi G3 => ∃ (p b : Addr) (xs ys : List D) (a c : Int), x = .ref p ∧ v = .ref b ∧ p ≠ b ∧ G3 p = some (.lst xs) ∧ G3 b = some (.lst ys) ∧ lo = some a ∧ hi = some c ∧ 0 ≤ a ∧ a ≤ c ∧ c ≤ xs.length ∧ xs.length + ys.length ≤ sizeLine ∧
  R σ (gup G3 p (.lst (xs.take a.toNat ++ ys ++ xs.drop c.toNat))) := rfl
end DL

set_option Elab.async false
set_option linter.all false
set_option maxRecDepth 100000
set_option maxHeartbeats 4000000
set_option autoImplicit false
/-! ### a text many times -/
namespace DL
open PySem PySem.Spec PyProof.Rows L2
def dMulS : DR2 := fun x y G R => match x, y with
  | .str z, .int k => z.length ≤ 4000 ∧ 0 ≤ k ∧ k ≤ 4000 ∧ R (.str (Txt.mul z k)) G
  | _, _ => False
theorem op_mulZ {X : Cx} : OpR X (binaryOp .Mult) (fun x y H Q => ∃ z k, x = .str z ∧ y = .int k ∧ z.length ≤ 4000 ∧ 0 ≤ k ∧ k ≤ 4000 ∧ Q (.str (Txt.mul z k)) H) := by
  intro pins s σ H x y v u Q I rx ry h
  obtain ⟨z, k, rfl, rfl, h1, h2, h3, q⟩ := h
  obtain ⟨t, rfl⟩ := rx
  obtain ⟨t', rfl⟩ := ry
  exact SB.mul (mulOk_of 4000 4000 h1 h3 (by omega) (by decide) (by decide)) fun t' tk => ⟨.str (Txt.mul z k), H, I.tok _, ⟨_, rfl⟩, q⟩
theorem od_mulS {X : Cx} : OpD X (binaryOp .Mult) dMulS := opr_mono op_mulZ fun x y H Q h => by
  obtain ⟨c, d, G, N, R, r1, r2, rg, h, q⟩ := h
  unfold dMulS at h
  split at h
  · rename_i z k
    obtain rfl := r1.of_str
    obtain rfl := r2.of_int
    exact ⟨z, k, rfl, rfl, h.1, h.2.1, h.2.2.1, q.at rg h.2.2.2 (RD.str _)⟩
  · exact h.elim
end DL

set_option Elab.async false
set_option linter.all false
set_option maxRecDepth 100000
set_option maxHeartbeats 4000000
set_option autoImplicit false
namespace K15
open PySem PySem.Spec PyProof.Rows L2 DL
local macro_rules | `(tactic| walk_at "d") => `(tactic| dsimp only [dSeq, dNext, dIfS, dRet, dRetN, dAsg, dName, dVar, dC, dOp, dUn, dChain, dB, dAnd, dOr, dNot, dAndV, dOrV, dNotV, dIf, dNil, dCons, dTup, dLst, newL, dCallB, dCall, dCallK, dDrop, dAug, dAugS, dSub, dM, dM0, dSlice, dNoPart, dPart, dLc, dYes, dFor, dIter, dRng1, dEnum, dZipM, srcD, dStar, dInK, dIxK, dLenSet, dRev,
  startD, wipeD, setAll, dNames, List.map_cons, List.map_nil, List.length_cons, List.length_nil, List.replicate, List.cons_append, List.nil_append, List.append_nil, List.getElem?_cons_zero, List.getElem?_cons_succ, List.set_cons_zero, List.set_cons_succ, List.map, Nat.zero_add, Nat.reduceAdd, Nat.reduceSub, Nat.sub_self, Nat.succ_sub_succ_eq_sub])
local macro_rules | `(tactic| walk_at "o") => `(tactic| simp only [dAdd_ii, dAdd_ss, dAdd_tt, dAdd_ll, dMinus_ii, dMul_ii, dMod_ii, dFdiv_ii, dPow_ii, dShl_ii, dNeg_i, dIadd_ii, dLt_ii, dLe_ii, dGt_ii, dGe_ii, dEq_ii, dNe_ii, dEq_ss, dNe_ss, dEq_bb, dNe_bb, dIs_n, dIsNot_n, dMax2_ii, dMin2_ii, dTuple_t, dTuple_l, dList_t, dList_l, dIx_t, dIx_l, dIx_s, dSl_t, dSl_l, dSl_s, newL_f, len_tup, len_lst])
local macro_rules | `(tactic| walk_at "w") => `(tactic| dsimp only [x_var, x_c, x_op, x_un, x_b, x_and, x_or, x_not, x_chain, x_andV, x_orV, x_notV, x_if, x_nil, x_cons, x_tup, x_lst0, x_lst1, x_callB, x_call, x_callK, x_next, x_seq, x_break, x_cont, x_drop, x_ret, x_ifS, x_asg, x_name, x_names, x_sub, x_aug, x_augS, x_for, x_lc0, x_lc1, x_yes, x_noPart, x_part, x_slice, x_iter, it_t, it_l, it_n, it_s, it_r, x_rng1, x_enum, x_rev, x_m, x_m0, x_mX, x_zip, x_star_t, x_star_l, x_lenSet, x_forgo0, x_lcgo0, x_while, x_par, x_sortK,
  br_t, br_f, isB_bl, isI_int, isN_some, slo_some, atL_lst, ix_t, ix_l, ix_n,
  dAdd_ii, dAdd_ss, dAdd_tt, dAdd_ll, dMinus_ii, dMul_ii, dMod_ii, dFdiv_ii, dPow_ii, dShl_ii, dNeg_i, dIadd_ii, dLt_ii, dLe_ii, dGt_ii, dGe_ii, ltE_ii, ltE_ss, srcD, isi_i, isi_s, isi_b, isi_n, isi_t, isi_nt, isi_l, isi2_i, isi2_s, isi2_b, isi2_n, isi2_t, isi2_nt, isi2_l, inon_n, inon_i, inon_s, inon_b, inon_t, inon_l, inon_r, dEq_ii, dNe_ii, dEq_ss, dNe_ss, dEq_bb, dNe_bb, dIs_n, dIsNot_n, dMax2_ii, dMin2_ii, dTuple_t, dTuple_l, dList_t, dList_l, dSl_t, dSl_l, dSl_s, newL_f, newL_t, app_r, int_b, int_i, strI_i, strX_i, strX_s,
  startD, wipeD, setAll, permL, List.filterMap, List.map_cons, List.map_nil, List.length_cons, List.length_nil, List.replicate, List.cons_append, List.nil_append, List.append_nil, List.getElem?_cons_zero, List.getElem?_cons_succ, List.set_cons_zero, List.set_cons_succ, List.map, Nat.zero_add, Nat.reduceAdd, Nat.reduceSub, Nat.sub_self, Nat.succ_sub_succ_eq_sub])
local macro_rules | `(tactic| walk_at "v") => `(tactic| simp only [ofString_inj, String.reduceEq, at_0, at_1, at_2, at_3, at_4, at_5, isN_some, isBB_bl, isB_bl, br_t, br_f, br_not, br_and, br_or, br_dec, ix_r, len_tup, len_lst, len_nt, ltE_key, gup_gup, gup_same, starD_one, cut1, cut2, kt1, kt2, kt3, kt4, kt5, kt6, isTy, String.reduceBEq, Bool.or_false, Bool.false_or, Bool.true_or, Bool.or_true, Bool.and_false, Bool.false_and, Bool.true_and, Bool.and_true, Bool.not_true, Bool.not_false, decide_true, decide_false, eq_self_iff_true, Bool.false_eq_true, Int.reduceAdd, Int.add_zero, if_true, if_false, true_and, and_true])
local macro_rules | `(tactic| walk_at "side") => `(tactic| first | with_reducible assumption | omega | exact mty_up | exact True.intro | (simp only [List.mem_cons, ofString_inj, String.reduceEq, true_or, or_true, List.length_map]; done) | with_reducible exact (rfl : (_ : Nat) = _) | exact (rfl : (_ : Option String) = _) | (refine small_line ?_; omega) | (walk_at "ll"; first | omega | (refine small_line ?_; omega) | fail) | (exact log_small (by omega)) | fail)
local macro_rules | `(tactic| walk_at "x") => `(tactic| fail)
local macro_rules | `(tactic| walk_at "go") => `(tactic| repeat' (first | dsimp only [x_var, x_c, x_op, x_un, x_b, x_and, x_or, x_not, x_chain, x_andV, x_orV, x_notV, x_if, x_nil, x_cons, x_tup, x_lst0, x_lst1, x_callB, x_call, x_callK, x_next, x_seq, x_break, x_cont, x_drop, x_ret, x_ifS, x_asg, x_name, x_names, x_sub, x_aug, x_augS, x_for, x_lc0, x_lc1, x_yes, x_noPart, x_part, x_slice, x_iter, it_t, it_l, it_n, it_s, it_r, x_rng1, x_enum, x_rev, x_m, x_m0, x_mX, x_zip, x_star_t, x_star_l, x_lenSet, x_forgo0, x_lcgo0, x_while, x_par, x_sortK, br_t, br_f, isB_bl, isI_int, isN_some, slo_some, atL_lst, ix_t, ix_l, ix_n, dAdd_ii, dAdd_ss, dAdd_tt, dAdd_ll, dMinus_ii, dMul_ii, dMod_ii, dFdiv_ii, dPow_ii, dShl_ii, dNeg_i, dIadd_ii, dLt_ii, dLe_ii, dGt_ii, dGe_ii, ltE_ii, ltE_ss, srcD, isi_i, isi_s, isi_b, isi_n, isi_t, isi_nt, isi_l, isi2_i, isi2_s, isi2_b, isi2_n, isi2_t, isi2_nt, isi2_l, inon_n, inon_i, inon_s, inon_b, inon_t, inon_l, inon_r, dEq_ii, dNe_ii, dEq_ss, dNe_ss, dEq_bb, dNe_bb, dIs_n, dIsNot_n, dMax2_ii, dMin2_ii, dTuple_t, dTuple_l, dList_t, dList_l, dSl_t, dSl_l, dSl_s, newL_f, newL_t, app_r, int_b, int_i, strI_i, strX_i, strX_s, startD, wipeD, setAll, permL, List.filterMap, List.map_cons, List.map_nil, List.length_cons, List.length_nil, List.replicate, List.cons_append, List.nil_append, List.append_nil, List.getElem?_cons_zero, List.getElem?_cons_succ, List.set_cons_zero, List.set_cons_succ, List.map, Nat.zero_add, Nat.reduceAdd, Nat.reduceSub, Nat.sub_self, Nat.succ_sub_succ_eq_sub] | simp only [ofString_inj, String.reduceEq, at_0, at_1, at_2, at_3, at_4, at_5, isN_some, isBB_bl, isB_bl, br_t, br_f, br_not, br_and, br_or, br_dec, ix_r, len_tup, len_lst, len_nt, ltE_key, gup_gup, gup_same, starD_one, cut1, cut2, kt1, kt2, kt3, kt4, kt5, kt6, isTy, String.reduceBEq, Bool.or_false, Bool.false_or, Bool.true_or, Bool.or_true, Bool.and_false, Bool.false_and, Bool.true_and, Bool.and_true, Bool.not_true, Bool.not_false, decide_true, decide_false, eq_self_iff_true, Bool.false_eq_true, Int.reduceAdd, Int.add_zero, if_true, if_false, true_and, and_true] | walk_at "x" | with_reducible refine kont_go ?_ | with_reducible refine rt_sub (by assumption) ?_ | with_reducible refine rt_lst (by assumption) ?_ | with_reducible refine rt_drop (by assumption) ?_ | with_reducible refine rt_keep (by assumption) (by assumption) ?_ | with_reducible refine rt_same ?_ | (refine fun (p : Addr) (_ : _ = none) => ?_) | refine join_gor gup_same rfl (by walk_at "side") ?_ | with_reducible refine lc_cons ?_ | with_reducible refine for_cons ?_ | refine join_go rfl (by walk_at "side") ?_ | refine And.intro (by first | with_reducible assumption | omega | exact mty_up | exact True.intro | (simp only [List.mem_cons, ofString_inj, String.reduceEq, true_or, or_true, List.length_map]; done) | with_reducible exact (rfl : (_ : Nat) = _) | exact (rfl : (_ : Option String) = _) | (refine small_line ?_; omega) | (walk_at "ll"; first | omega | (refine small_line ?_; omega) | fail) | (exact log_small (by omega)) | fail) ?_ | fail))
def topS (i : Nat) : Stmt := PySem.Challenge.pw_steploft_k15_texts_of_no_machine.main.body.getD i (.Pass ⟨0, 0, 0, 0⟩)
abbrev s_is_whole : Stmt := topS 17
abbrev N_is_whole : List Str := ["thing"]
theorem sc_is_whole : FnScope N_is_whole ["thing"] (defScope s_is_whole) := ⟨rfl, rfl, rfl, by decide +kernel, rfl, by decide +kernel, by decide +kernel⟩
abbrev s_is_within : Stmt := topS 18
abbrev N_is_within : List Str := ["thing", "low", "high"]
theorem sc_is_within : FnScope N_is_within ["thing", "low", "high"] (defScope s_is_within) := ⟨rfl, rfl, rfl, by decide +kernel, rfl, by decide +kernel, by decide +kernel⟩
abbrev s_is_name : Stmt := topS 19
abbrev N_is_name : List Str := ["thing", "sign"]
theorem sc_is_name : FnScope N_is_name ["thing"] (defScope s_is_name) := ⟨rfl, rfl, rfl, by decide +kernel, rfl, by decide +kernel, by decide +kernel⟩
abbrev s_is_machine : Stmt := topS 20
abbrev N_is_machine : List Str := ["thing", "bits", "registers", "hidden", "alus", "moves", "cells", "name"]
theorem sc_is_machine : FnScope N_is_machine ["thing"] (defScope s_is_machine) := ⟨rfl, rfl, rfl, by decide +kernel, rfl, by decide +kernel, by decide +kernel⟩
abbrev s_number_in : Stmt := topS 25
abbrev N_number_in : List Str := ["word", "sign"]
theorem sc_number_in : FnScope N_number_in ["word"] (defScope s_number_in) := ⟨rfl, rfl, rfl, by decide +kernel, rfl, by decide +kernel, by decide +kernel⟩
abbrev s_show_machine : Stmt := topS 26
abbrev N_show_machine : List Str := ["machine", "bits", "registers", "numbers", "words", "word", "number"]
theorem sc_show_machine : FnScope N_show_machine ["machine"] (defScope s_show_machine) := ⟨rfl, rfl, rfl, by decide +kernel, rfl, by decide +kernel, by decide +kernel⟩
abbrev s_read_machine : Stmt := topS 27
abbrev N_read_machine : List Str := ["text", "words", "numbers", "found", "word"]
theorem sc_read_machine : FnScope N_read_machine ["text"] (defScope s_read_machine) := ⟨rfl, rfl, rfl, by decide +kernel, rfl, by decide +kernel, by decide +kernel⟩
abbrev s__law_sack : Stmt := topS 29
abbrev N__law_sack : List Str := ["cell", "k"]
theorem sc__law_sack : FnScope N__law_sack ["cell", "k"] (defScope s__law_sack) := ⟨rfl, rfl, rfl, by decide +kernel, rfl, by decide +kernel, by decide +kernel⟩
abbrev s__law_pull : Stmt := topS 30
abbrev N__law_pull : List Str := ["sack", "many", "found", "mixed"]
theorem sc__law_pull : FnScope N__law_pull ["sack", "many"] (defScope s__law_pull) := ⟨rfl, rfl, rfl, by decide +kernel, rfl, by decide +kernel, by decide +kernel⟩
abbrev s__law_names : Stmt := topS 31
abbrev N__law_names : List Str := ["sack", "many", "letters", "some", "found", "k", "name", "step", "j"]
theorem sc__law_names : FnScope N__law_names ["sack", "many"] (defScope s__law_names) := ⟨rfl, rfl, rfl, by decide +kernel, rfl, by decide +kernel, by decide +kernel⟩
abbrev s__law_own : Stmt := topS 32
abbrev N__law_own : List Str := ["sack", "bits", "names", "hidden", "top", "cells"]
theorem sc__law_own : FnScope N__law_own ["sack"] (defScope s__law_own) := ⟨rfl, rfl, rfl, by decide +kernel, rfl, by decide +kernel, by decide +kernel⟩
abbrev s__law_is_name : Stmt := topS 35
abbrev N__law_is_name : List Str := ["what", "sign"]
theorem sc__law_is_name : FnScope N__law_is_name ["what"] (defScope s__law_is_name) := ⟨rfl, rfl, rfl, by decide +kernel, rfl, by decide +kernel, by decide +kernel⟩
abbrev s__law_same : Stmt := topS 36
abbrev N__law_same : List Str := ["found", "due", "one", "other"]
theorem sc__law_same : FnScope N__law_same ["found", "due"] (defScope s__law_same) := ⟨rfl, rfl, rfl, by decide +kernel, rfl, by decide +kernel, by decide +kernel⟩
abbrev s__law_changed : Stmt := topS 37
abbrev N__law_changed : List Str := ["sack", "line", "signs", "sign", "at", "way", "words", "k", "odd", "word"]
theorem sc__law_changed : FnScope N__law_changed ["sack", "line"] (defScope s__law_changed) := ⟨rfl, rfl, rfl, by decide +kernel, rfl, by decide +kernel, by decide +kernel⟩
abbrev s__law_word_of : Stmt := topS 38
abbrev N__law_word_of : List Str := ["caught"]
theorem sc__law_word_of : FnScope N__law_word_of ["caught"] (defScope s__law_word_of) := ⟨rfl, rfl, rfl, by decide +kernel, rfl, by decide +kernel, by decide +kernel⟩
abbrev s__law_number : Stmt := topS 39
abbrev N__law_number : List Str := ["word", "sign"]
theorem sc__law_number : FnScope N__law_number ["word"] (defScope s__law_number) := ⟨rfl, rfl, rfl, by decide +kernel, rfl, by decide +kernel, by decide +kernel⟩
abbrev s__law_read : Stmt := topS 40
abbrev N__law_read : List Str := ["line", "words", "due", "names", "bits", "hidden", "alus", "moves", "cells", "word", "name"]
theorem sc__law_read : FnScope N__law_read ["line"] (defScope s__law_read) := ⟨rfl, rfl, rfl, by decide +kernel, rfl, by decide +kernel, by decide +kernel⟩
abbrev s__law_told : Stmt := topS 41
abbrev N__law_told : List Str := ["line", "found", "e"]
theorem sc__law_told : FnScope N__law_told ["line"] (defScope s__law_told) := ⟨rfl, rfl, rfl, by decide +kernel, rfl, by decide +kernel, by decide +kernel⟩
abbrev s__law_right : Stmt := topS 42
abbrev N__law_right : List Str := ["sack", "own", "numbers", "at", "names", "line", "word", "number", "turn", "due"]
theorem sc__law_right : FnScope N__law_right ["sack"] (defScope s__law_right) := ⟨rfl, rfl, rfl, by decide +kernel, rfl, by decide +kernel, by decide +kernel⟩
abbrev s_law : Stmt := topS 43
abbrev N_law : List Str := ["script", "k", "cell"]
theorem sc_law : FnScope N_law ["script"] (defScope s_law) := ⟨rfl, rfl, rfl, by decide +kernel, rfl, by decide +kernel, by decide +kernel⟩
abbrev si_NoText : Stmt := inClass (topS 8) 0
abbrev Ni_NoText : List Str := ["self", "row"]
theorem sci_NoText : FnScope Ni_NoText ["self", "row"] (defScope si_NoText) := ⟨rfl, rfl, rfl, by decide +kernel, rfl, by decide +kernel, by decide +kernel⟩
theorem ll_0 : (Str.ofString "steploft.errors").length = 15 := by rw [len_lit] <;> rfl
theorem ll_1 : (Str.ofString "steploft.machines").length = 17 := by rw [len_lit] <;> rfl
theorem ll_2 : (Str.ofString "abcdefghijklmnopqrstuvwxyz").length = 26 := by rw [len_lit] <;> rfl
theorem ll_3 : (Str.ofString "steploft.texts").length = 14 := by rw [len_lit] <;> rfl
theorem ll_4 : (Str.ofString "0123456789").length = 10 := by rw [len_lit] <;> rfl
theorem ll_5 : (Str.ofString "law_steploft_k15_texts_of_no_machine").length = 36 := by rw [len_lit] <;> rfl
theorem ll_6 : (Str.ofString "hidden").length = 6 := by rw [len_lit] <;> rfl
theorem ll_7 : (Str.ofString "alus").length = 4 := by rw [len_lit] <;> rfl
theorem ll_8 : (Str.ofString "moves").length = 5 := by rw [len_lit] <;> rfl
theorem ll_9 : (Str.ofString "cells").length = 5 := by rw [len_lit] <;> rfl
theorem ll_10 : (Str.ofString " ").length = 1 := by rw [len_lit] <;> rfl
theorem ll_11 : (Str.ofString "a").length = 1 := by rw [len_lit] <;> rfl
theorem ll_12 : (Str.ofString "b").length = 1 := by rw [len_lit] <;> rfl
theorem ll_13 : (Str.ofString "x").length = 1 := by rw [len_lit] <;> rfl
theorem ll_14 : (Str.ofString "acc").length = 3 := by rw [len_lit] <;> rfl
theorem ll_15 : (Str.ofString "h").length = 1 := by rw [len_lit] <;> rfl
theorem ll_16 : (Str.ofString "abcdefgh").length = 8 := by rw [len_lit] <;> rfl
theorem ll_17 : (Str.ofString "if").length = 2 := by rw [len_lit] <;> rfl
theorem ll_18 : (Str.ofString "then").length = 4 := by rw [len_lit] <;> rfl
theorem ll_19 : (Str.ofString "nop").length = 3 := by rw [len_lit] <;> rfl
theorem ll_20 : (Str.ofString "put").length = 3 := by rw [len_lit] <;> rfl
theorem ll_21 : (Str.ofString "reg").length = 3 := by rw [len_lit] <;> rfl
theorem ll_22 : (Str.ofString "add").length = 3 := by rw [len_lit] <;> rfl
theorem ll_23 : (Str.ofString "alu").length = 3 := by rw [len_lit] <;> rfl
theorem ll_24 : (Str.ofString "load").length = 4 := by rw [len_lit] <;> rfl
theorem ll_25 : (Str.ofString "/").length = 1 := by rw [len_lit] <;> rfl
theorem ll_26 : (Str.ofString "h0").length = 2 := by rw [len_lit] <;> rfl
theorem ll_27 : (Str.ofString "h12").length = 3 := by rw [len_lit] <;> rfl
theorem ll_28 : (Str.ofString "h13").length = 3 := by rw [len_lit] <;> rfl
theorem ll_29 : (Str.ofString "h00").length = 3 := by rw [len_lit] <;> rfl
theorem ll_30 : (Str.ofString "0").length = 1 := by rw [len_lit] <;> rfl
theorem ll_31 : (Str.ofString "7").length = 1 := by rw [len_lit] <;> rfl
theorem ll_32 : (Str.ofString "00").length = 2 := by rw [len_lit] <;> rfl
theorem ll_33 : (Str.ofString "256").length = 3 := by rw [len_lit] <;> rfl
theorem ll_34 : (Str.ofString "=").length = 1 := by rw [len_lit] <;> rfl
theorem ll_35 : (Str.ofString "other").length = 5 := by rw [len_lit] <;> rfl
theorem ll_36 : (Str.ofString "NoText").length = 6 := by rw [len_lit] <;> rfl
theorem ll_37 : (Str.ofString "bits").length = 4 := by rw [len_lit] <;> rfl
theorem ll_38 : (Str.ofString "registers").length = 9 := by rw [len_lit] <;> rfl
theorem ll_39 : (Str.ofString "no such text").length = 12 := by rw [len_lit] <;> rfl
theorem ll_40 : (Str.ofString "no instruction has this name").length = 28 := by rw [len_lit] <;> rfl
theorem ll_41 : (Str.ofString "else").length = 4 := by rw [len_lit] <;> rfl
theorem ll_42 : (Str.ofString "or").length = 2 := by rw [len_lit] <;> rfl
theorem ll_43 : (Str.ofString "less").length = 4 := by rw [len_lit] <;> rfl
theorem ll_44 : (Str.ofString "{").length = 1 := by rw [len_lit] <;> rfl
theorem ll_45 : (Str.ofString "}").length = 1 := by rw [len_lit] <;> rfl
theorem ll_46 : (Str.ofString ";").length = 1 := by rw [len_lit] <;> rfl
theorem ll_47 : (Str.ofString "999999999").length = 9 := by rw [len_lit] <;> rfl
theorem ll_48 : (Str.ofString "").length = 0 := by rw [len_lit] <;> rfl
theorem ll_49 : (Str.ofString " registers ").length = 11 := by rw [len_lit] <;> rfl
theorem ll_50 : (Str.ofString "NoText1").length = 7 := by rw [len_lit] <;> rfl
theorem ll_51 : (Str.ofString "z").length = 1 := by rw [len_lit] <;> rfl
theorem ll_52 : (Str.ofString "1").length = 1 := by rw [len_lit] <;> rfl
theorem ll_53 : (Str.ofString "bits ").length = 5 := by rw [len_lit] <;> rfl
theorem ll_54 : (Str.ofString "9").length = 1 := by rw [len_lit] <;> rfl
structure Ad where
  f_is_whole : Addr
  fd_is_whole : FuncData
  f_is_within : Addr
  fd_is_within : FuncData
  f_is_name : Addr
  fd_is_name : FuncData
  f_is_machine : Addr
  fd_is_machine : FuncData
  f_number_in : Addr
  fd_number_in : FuncData
  f_show_machine : Addr
  fd_show_machine : FuncData
  f_read_machine : Addr
  fd_read_machine : FuncData
  f__law_sack : Addr
  fd__law_sack : FuncData
  f__law_pull : Addr
  fd__law_pull : FuncData
  f__law_names : Addr
  fd__law_names : FuncData
  f__law_own : Addr
  fd__law_own : FuncData
  f__law_is_name : Addr
  fd__law_is_name : FuncData
  f__law_same : Addr
  fd__law_same : FuncData
  f__law_changed : Addr
  fd__law_changed : FuncData
  f__law_word_of : Addr
  fd__law_word_of : FuncData
  f__law_number : Addr
  fd__law_number : FuncData
  f__law_read : Addr
  fd__law_read : FuncData
  f__law_told : Addr
  fd__law_told : FuncData
  f__law_right : Addr
  fd__law_right : FuncData
  f_law : Addr
  fd_law : FuncData
  x_LoftError : Addr
  x_TooMany : Addr
  x_NoRoom : Addr
  x_NoRow : Addr
  x_NoLoft : Addr
  x_NoCells : Addr
  x_NotStill : Addr
  x_NoText : Addr
  x_NoName : Addr
  fi_NoText : Addr
  fdi_NoText : FuncData
structure Tx (w : World) (K : PySem.W.Frag) (mg : Str → Option Value) (a : Ad) : Prop where
  F_is_whole : Fun K "is_whole" "is_whole" s_is_whole a.f_is_whole a.fd_is_whole
  b_is_whole : Binds K a.fd_is_whole ["thing"] []
  g_is_whole : mg "is_whole" = some (.ref a.f_is_whole)
  F_is_within : Fun K "is_within" "is_within" s_is_within a.f_is_within a.fd_is_within
  b_is_within : Binds K a.fd_is_within ["thing", "low", "high"] []
  g_is_within : mg "is_within" = some (.ref a.f_is_within)
  F_is_name : Fun K "is_name" "is_name" s_is_name a.f_is_name a.fd_is_name
  b_is_name : Binds K a.fd_is_name ["thing"] []
  g_is_name : mg "is_name" = some (.ref a.f_is_name)
  F_is_machine : Fun K "is_machine" "is_machine" s_is_machine a.f_is_machine a.fd_is_machine
  b_is_machine : Binds K a.fd_is_machine ["thing"] []
  g_is_machine : mg "is_machine" = some (.ref a.f_is_machine)
  F_number_in : Fun K "number_in" "number_in" s_number_in a.f_number_in a.fd_number_in
  b_number_in : Binds K a.fd_number_in ["word"] []
  g_number_in : mg "number_in" = some (.ref a.f_number_in)
  F_show_machine : Fun K "show_machine" "show_machine" s_show_machine a.f_show_machine a.fd_show_machine
  b_show_machine : Binds K a.fd_show_machine ["machine"] []
  g_show_machine : mg "show_machine" = some (.ref a.f_show_machine)
  F_read_machine : Fun K "read_machine" "read_machine" s_read_machine a.f_read_machine a.fd_read_machine
  b_read_machine : Binds K a.fd_read_machine ["text"] []
  g_read_machine : mg "read_machine" = some (.ref a.f_read_machine)
  F__law_sack : Fun K "_law_sack" "_law_sack" s__law_sack a.f__law_sack a.fd__law_sack
  b__law_sack : Binds K a.fd__law_sack ["cell", "k"] []
  g__law_sack : mg "_law_sack" = some (.ref a.f__law_sack)
  F__law_pull : Fun K "_law_pull" "_law_pull" s__law_pull a.f__law_pull a.fd__law_pull
  b__law_pull : Binds K a.fd__law_pull ["sack", "many"] []
  g__law_pull : mg "_law_pull" = some (.ref a.f__law_pull)
  F__law_names : Fun K "_law_names" "_law_names" s__law_names a.f__law_names a.fd__law_names
  b__law_names : Binds K a.fd__law_names ["sack", "many"] []
  g__law_names : mg "_law_names" = some (.ref a.f__law_names)
  F__law_own : Fun K "_law_own" "_law_own" s__law_own a.f__law_own a.fd__law_own
  b__law_own : Binds K a.fd__law_own ["sack"] []
  g__law_own : mg "_law_own" = some (.ref a.f__law_own)
  F__law_is_name : Fun K "_law_is_name" "_law_is_name" s__law_is_name a.f__law_is_name a.fd__law_is_name
  b__law_is_name : Binds K a.fd__law_is_name ["what"] []
  g__law_is_name : mg "_law_is_name" = some (.ref a.f__law_is_name)
  F__law_same : Fun K "_law_same" "_law_same" s__law_same a.f__law_same a.fd__law_same
  b__law_same : Binds K a.fd__law_same ["found", "due"] []
  g__law_same : mg "_law_same" = some (.ref a.f__law_same)
  F__law_changed : Fun K "_law_changed" "_law_changed" s__law_changed a.f__law_changed a.fd__law_changed
  b__law_changed : Binds K a.fd__law_changed ["sack", "line"] []
  g__law_changed : mg "_law_changed" = some (.ref a.f__law_changed)
  F__law_word_of : Fun K "_law_word_of" "_law_word_of" s__law_word_of a.f__law_word_of a.fd__law_word_of
  b__law_word_of : Binds K a.fd__law_word_of ["caught"] []
  g__law_word_of : mg "_law_word_of" = some (.ref a.f__law_word_of)
  F__law_number : Fun K "_law_number" "_law_number" s__law_number a.f__law_number a.fd__law_number
  b__law_number : Binds K a.fd__law_number ["word"] []
  g__law_number : mg "_law_number" = some (.ref a.f__law_number)
  F__law_read : Fun K "_law_read" "_law_read" s__law_read a.f__law_read a.fd__law_read
  b__law_read : Binds K a.fd__law_read ["line"] []
  g__law_read : mg "_law_read" = some (.ref a.f__law_read)
  F__law_told : Fun K "_law_told" "_law_told" s__law_told a.f__law_told a.fd__law_told
  b__law_told : Binds K a.fd__law_told ["line"] []
  g__law_told : mg "_law_told" = some (.ref a.f__law_told)
  F__law_right : Fun K "_law_right" "_law_right" s__law_right a.f__law_right a.fd__law_right
  b__law_right : Binds K a.fd__law_right ["sack"] []
  g__law_right : mg "_law_right" = some (.ref a.f__law_right)
  F_law : Fun K "law" "law" s_law a.f_law a.fd_law
  b_law : Binds K a.fd_law ["script"] []
  g_law : mg "law" = some (.ref a.f_law)
  n_ValueError : mg "ValueError" = none
  n_all : mg "all" = none
  n_bool : mg "bool" = none
  n_enumerate : mg "enumerate" = none
  n_int : mg "int" = none
  n_isinstance : mg "isinstance" = none
  n_len : mg "len" = none
  n_list : mg "list" = none
  n_max : mg "max" = none
  n_min : mg "min" = none
  n_range : mg "range" = none
  n_set : mg "set" = none
  n_str : mg "str" = none
  n_tuple : mg "tuple" = none
  n_zip : mg "zip" = none
  gx_LoftError : mg "LoftError" = some (.ref a.x_LoftError)
  kx_LoftError : PySem.W.keepIn K (.ref a.x_LoftError) = true
  bx_LoftError : PySem.W.subIn K (.ref a.x_LoftError) (.type "BaseException") = some true
  tx_LoftError : PySem.W.typeIn K (.ref a.x_LoftError) = some (.type "type")
  hx_LoftError : PySem.W.hasDictIn K a.x_LoftError = true
  gx_TooMany : mg "TooMany" = some (.ref a.x_TooMany)
  kx_TooMany : PySem.W.keepIn K (.ref a.x_TooMany) = true
  bx_TooMany : PySem.W.subIn K (.ref a.x_TooMany) (.type "BaseException") = some true
  tx_TooMany : PySem.W.typeIn K (.ref a.x_TooMany) = some (.type "type")
  hx_TooMany : PySem.W.hasDictIn K a.x_TooMany = true
  gx_NoRoom : mg "NoRoom" = some (.ref a.x_NoRoom)
  kx_NoRoom : PySem.W.keepIn K (.ref a.x_NoRoom) = true
  bx_NoRoom : PySem.W.subIn K (.ref a.x_NoRoom) (.type "BaseException") = some true
  tx_NoRoom : PySem.W.typeIn K (.ref a.x_NoRoom) = some (.type "type")
  hx_NoRoom : PySem.W.hasDictIn K a.x_NoRoom = true
  gx_NoRow : mg "NoRow" = some (.ref a.x_NoRow)
  kx_NoRow : PySem.W.keepIn K (.ref a.x_NoRow) = true
  bx_NoRow : PySem.W.subIn K (.ref a.x_NoRow) (.type "BaseException") = some true
  tx_NoRow : PySem.W.typeIn K (.ref a.x_NoRow) = some (.type "type")
  hx_NoRow : PySem.W.hasDictIn K a.x_NoRow = true
  gx_NoLoft : mg "NoLoft" = some (.ref a.x_NoLoft)
  kx_NoLoft : PySem.W.keepIn K (.ref a.x_NoLoft) = true
  bx_NoLoft : PySem.W.subIn K (.ref a.x_NoLoft) (.type "BaseException") = some true
  tx_NoLoft : PySem.W.typeIn K (.ref a.x_NoLoft) = some (.type "type")
  hx_NoLoft : PySem.W.hasDictIn K a.x_NoLoft = true
  gx_NoCells : mg "NoCells" = some (.ref a.x_NoCells)
  kx_NoCells : PySem.W.keepIn K (.ref a.x_NoCells) = true
  bx_NoCells : PySem.W.subIn K (.ref a.x_NoCells) (.type "BaseException") = some true
  tx_NoCells : PySem.W.typeIn K (.ref a.x_NoCells) = some (.type "type")
  hx_NoCells : PySem.W.hasDictIn K a.x_NoCells = true
  gx_NotStill : mg "NotStill" = some (.ref a.x_NotStill)
  kx_NotStill : PySem.W.keepIn K (.ref a.x_NotStill) = true
  bx_NotStill : PySem.W.subIn K (.ref a.x_NotStill) (.type "BaseException") = some true
  tx_NotStill : PySem.W.typeIn K (.ref a.x_NotStill) = some (.type "type")
  hx_NotStill : PySem.W.hasDictIn K a.x_NotStill = true
  gx_NoText : mg "NoText" = some (.ref a.x_NoText)
  kx_NoText : PySem.W.keepIn K (.ref a.x_NoText) = true
  bx_NoText : PySem.W.subIn K (.ref a.x_NoText) (.type "BaseException") = some true
  tx_NoText : PySem.W.typeIn K (.ref a.x_NoText) = some (.type "type")
  hx_NoText : PySem.W.hasDictIn K a.x_NoText = true
  gx_NoName : mg "NoName" = some (.ref a.x_NoName)
  kx_NoName : PySem.W.keepIn K (.ref a.x_NoName) = true
  bx_NoName : PySem.W.subIn K (.ref a.x_NoName) (.type "BaseException") = some true
  tx_NoName : PySem.W.typeIn K (.ref a.x_NoName) = some (.type "type")
  hx_NoName : PySem.W.hasDictIn K a.x_NoName = true
  I_NoText : Fun K "__init__" "NoText.__init__" si_NoText a.fi_NoText a.fdi_NoText
  bi_NoText : Binds K a.fdi_NoText ["self", "row"] []
  bk_NoText : ∀ (s : Shared) (us ws : List Value), us.length = 1 → ws.length = 1 → BindsTo s a.fdi_NoText ⟨us, List.zip ["row"] ws⟩ (List.zip ["self", "row"] (us ++ ws))
  oe_NoText : L2.OexC K a.x_NoText
  ii_NoText : PySem.W.findIn K (.ref a.x_NoText) "__init__" = some (some (.ref a.fi_NoText))
  ti_NoText : PySem.W.typeIn K (.ref a.fi_NoText) = some (.type "function")
  no_NoText : PySem.W.findIn K (.ref a.x_NoText) "row" = some none
  ga_LoftError : PySem.W.specialIn K (.ref a.x_LoftError) "__getattribute__" = some (some (.builtin "type.__getattribute__"))
  rd_LoftError : PySem.W.readsIn K a.x_LoftError (.type "type") = true
  vi_LoftError : PySem.W.findCls K (.ref a.x_LoftError) (.type "type") "__init__" = some (.val (.builtin "ValueError.__init__"))
  xf_NoText : L2.XfC K a.x_NoText
  xm_NoText_LoftError : PySem.W.exmOne K (.ref a.x_NoText) (.ref a.x_LoftError) = some true
  ec_NoText : L2.ExcC K a.x_NoText
  ki_NoText_TooMany : PySem.W.kitOne K (.ref a.x_NoText) (.ref a.x_TooMany) = some false
  ki_NoText_NoRoom : PySem.W.kitOne K (.ref a.x_NoText) (.ref a.x_NoRoom) = some false
  ki_NoText_NoRow : PySem.W.kitOne K (.ref a.x_NoText) (.ref a.x_NoRow) = some false
  ki_NoText_NoLoft : PySem.W.kitOne K (.ref a.x_NoText) (.ref a.x_NoLoft) = some false
  ki_NoText_NoCells : PySem.W.kitOne K (.ref a.x_NoText) (.ref a.x_NoCells) = some false
  ki_NoText_NotStill : PySem.W.kitOne K (.ref a.x_NoText) (.ref a.x_NotStill) = some false
  ki_NoText_NoText : PySem.W.kitOne K (.ref a.x_NoText) (.ref a.x_NoText) = some true
  ki_NoText_NoName : PySem.W.kitOne K (.ref a.x_NoText) (.ref a.x_NoName) = some false
  ki_NoText_ValueError : PySem.W.kitOne K (.ref a.x_NoText) (.type "ValueError") = some true
  c_MOST_BITS : ∃ t, mg "MOST_BITS" = some (.int 8 t)
  c_MOST_REGISTERS : ∃ t, mg "MOST_REGISTERS" = some (.int 6 t)
  c_MOST_HIDDEN : ∃ t, mg "MOST_HIDDEN" = some (.int 12 t)
  c_MOST_UNITS : ∃ t, mg "MOST_UNITS" = some (.int 3 t)
  c_MOST_SIGNS : ∃ t, mg "MOST_SIGNS" = some (.int 8 t)
  c_LETTERS : ∃ t, mg "LETTERS" = some (.str "abcdefghijklmnopqrstuvwxyz" t)
  c_FIGURES : ∃ t, mg "FIGURES" = some (.str "0123456789" t)
  c_MOST_FIGURES : ∃ t, mg "MOST_FIGURES" = some (.int 9 t)
  c_TAIL : ∃ u, mg "TAIL" = some u ∧ Kc K (.tup [.str "hidden", .str "alus", .str "moves", .str "cells"]) u
theorem oki_NoText {P : Program} {w : World} {K : PySem.W.Frag} {mg : Str → Option Value} {base : Heap} {a : Ad} (T : Tx w K mg a) : L2.FnOk P w K mg base L2.CX0 1 a.fi_NoText a.fdi_NoText ["self", "row"] (DL.spIni K "row") := DL.fun_okI (m := "no such text") T.I_NoText sci_NoText rfl fun cdv A outer s H => L2.pss_cons (L2.ps_expr (DL.pe_clsinit rfl T.gx_LoftError T.ga_LoftError T.rd_LoftError T.vi_LoftError (L2.pa_cons (L2.pv 0) (L2.pa_cons L2.pe_str L2.pa_nil)))) (L2.pss_cons (L2.ps_ost (L2.pv 0) (L2.pv 1)) L2.pss_nil)
local macro_rules | `(tactic| walk_at "ll") => `(tactic| simp only [List.length_map, List.length_append, List.length_cons, List.length_nil, List.map_cons, List.map_nil, List.sum_cons, List.sum_nil, len_app, rng_length, ll_0, ll_1, ll_2, ll_3, ll_4, ll_5, ll_6, ll_7, ll_8, ll_9, ll_10, ll_11, ll_12, ll_13, ll_14, ll_15, ll_16, ll_17, ll_18, ll_19, ll_20, ll_21, ll_22, ll_23, ll_24, ll_25, ll_26, ll_27, ll_28, ll_29, ll_30, ll_31, ll_32, ll_33, ll_34, ll_35, ll_36, ll_37, ll_38, ll_39, ll_40, ll_41, ll_42, ll_43, ll_44, ll_45, ll_46, ll_47, ll_48, ll_49, ll_50, ll_51, ll_52, ll_53, ll_54])
def sp_is_whole : DSp := fun ds G R => match ds with | [x] => plD x = true ∧ R (.bl (isWhole x)) G | _ => False
theorem ok_is_whole {P : Program} {w : World} {K : PySem.W.Frag} {mg : Str → Option Value} {base : Heap} {a : Ad} (T : Tx w K mg a) : FnD P w K mg base 1 a.f_is_whole a.fd_is_whole ["thing"] sp_is_whole := by
  refine fun_okD T.F_is_whole sc_is_whole (fun ds G R h => ?_) (fun cdv A outer s H hr => ⟨_, (qss_one (qs_ret (qe_and (qe_callB cd_isi rfl T.n_isinstance (by decide +kernel) (qa_cons (qv 0) (qa_cons (qe_ty (n := "int") rfl T.n_int (by decide +kernel)) qa_nil))) (qe_one (qe_not (qe_callB cd_isi rfl T.n_isinstance (by decide +kernel) (qa_cons (qv 0) (qa_cons (qe_ty (n := "bool") rfl T.n_bool (by decide +kernel)) qa_nil)))))))), fun ds G R h => ?_⟩)
  · unfold sp_is_whole at h; split at h; rfl; exact h.elim
  · unfold sp_is_whole at h
    split at h
    · rename_i x
      obtain ⟨hx, h⟩ := h
      walk_at "d"
      rw [isi_int hx]
      cases x with
      | bl b => simp only [isIntD, isi_bool hx, isBl]; exact ret_same h
      | int b => simp only [isIntD, isi_bool hx, isBl]; exact ret_same h
      | _ => simp only [isIntD]; exact ret_same h
    · exact h.elim
def isWithin (x : D) (lo hi : Int) : Bool := match x with | .int i => decide (lo ≤ i) && decide (i ≤ hi) | _ => false
def sp_is_within : DSp := fun ds G R => match ds with | [x, .int lo, .int hi] => plD x = true ∧ R (.bl (isWithin x lo hi)) G | _ => False
theorem ok_is_within {P : Program} {w : World} {K : PySem.W.Frag} {mg : Str → Option Value} {base : Heap} {a : Ad} (T : Tx w K mg a) : FnD P w K mg base 2 a.f_is_within a.fd_is_within ["thing", "low", "high"] sp_is_within := by
  refine fun_okD T.F_is_within sc_is_within (fun ds G R h => ?_) (fun cdv A outer s H hr => ⟨_, (qss_one (qs_ret (qe_and (qe_call (ok_is_whole T) (hr.mono (by omega)) rfl T.g_is_whole T.F_is_whole.kp T.b_is_whole (qa_cons (qv 0) qa_nil)) (qe_one (qe_chain od_le od_le (qv 1) (qv 0) (qv 2)))))), fun ds G R h => ?_⟩)
  · unfold sp_is_within at h; split at h; rfl; exact h.elim
  · unfold sp_is_within at h
    split at h
    · rename_i x lo hi
      obtain ⟨hx, h⟩ := h
      walk_at "d"
      refine ⟨hx, ?_⟩
      cases x with
      | int i =>
        simp only [isWhole, dLe, dOrd]
        unfold isWithin at h
        simp only at h
        by_cases e : lo ≤ i
        · rw [decide_eq_true e] at h ⊢
          exact ret_same h
        · rw [decide_eq_false e] at h ⊢
          exact ret_same h
      | _ => exact ret_same h
    · exact h.elim
/-! ### names -/
def letters : Str := "abcdefghijklmnopqrstuvwxyz"
def low (c : Nat) : Bool := decide (97 ≤ c) && decide (c ≤ 122)
def nameOk (z : Str) : Bool := decide (1 ≤ z.length) && decide (z.length ≤ 8) && z.cps.toList.all low
def isName : D → Bool | .str z => nameOk z | _ => false
theorem letters_list : letters.cps.toList = [97, 98, 99, 100, 101, 102, 103, 104, 105, 106, 107, 108, 109, 110, 111, 112, 113, 114, 115, 116, 117, 118, 119, 120, 121, 122] := by decide +kernel
theorem in_letters (c : Nat) : decide (c ∈ letters.cps.toList) = low c := by
  rw [letters_list, Bool.eq_iff_iff]
  simp only [decide_eq_true_eq, low, Bool.and_eq_true]
  constructor
  · intro h
    simp only [List.mem_cons, List.not_mem_nil, or_false] at h
    omega
  · rintro ⟨h1, h2⟩
    simp only [List.mem_cons, List.not_mem_nil, or_false]
    omega
theorem shl_ok {i : Int} (h0 : 0 ≤ i) (h1 : i ≤ 1000) : CShl 1 i := by
  refine ⟨h0, ?_⟩
  have : (Builtin.Int.intBits 1 : Int) = 1 := by decide
  rw [this]
  omega
/-! ### numbers' sizes -/
theorem bits_le {x : Int} {n : Nat} (h : x.natAbs < 2 ^ n) (h0 : 0 < n) : Builtin.Int.intBits x ≤ n := by
  unfold Builtin.Int.intBits
  split
  · omega
  · have := PySem.Flt.log2_lt_of h0 h
    omega
theorem pow_ok {x : Int} {n : Nat} {k : Int} (h : x.natAbs < 2 ^ n) (h0 : 0 < n) (hk : 0 ≤ k) (hk2 : k ≤ 100) (hn : n ≤ 10000) : CPowX x k := by
  refine ⟨hk, ?_⟩
  have h1 := bits_le h h0
  have h2 : (Builtin.Int.intBits x : Int) * k ≤ 10000 * 100 := Int.mul_le_mul (by omega) hk2 hk (by omega)
  omega
theorem mul_ok {x y : Int} (h1 : -(2 ^ 64) < x) (h2 : x < 2 ^ 64) : IntMulOk x y := .of_left (intBits_le_64 h1 h2)
theorem mul_ok' {x y : Int} (h1 : -(2 ^ 64) < y) (h2 : y < 2 ^ 64) : IntMulOk x y := .of_right (intBits_le_64 h1 h2)
theorem div_ok {x y : Int} (h1 : 0 < y) (h2 : y < 2 ^ 64) : CDivW x y := ⟨h1, Nat.lt_of_lt_of_le (PySem.Flt.log2_lt_of (k := 64) (by decide) (by omega)) (by decide)⟩
/-! ### draws -/
def Sack (n : Nat) (a b c : Int) : Prop := 0 ≤ a ∧ 0 ≤ b ∧ b < 10 ^ 41 ∧ 0 ≤ c ∧ c ≤ n
def SackO (n : Nat) (o : GO) : Prop := ∃ a b c, o = .lst [.int a, .int b, .int c] ∧ Sack n a b c
theorem SackO.mono {n m : Nat} {o : GO} (h : SackO n o) (l : n ≤ m) : SackO m o := by
  obtain ⟨a, b, c, e, h1, h2, h3, h4, h5⟩ := h
  exact ⟨a, b, c, e, h1, h2, h3, h4, by omega⟩
def sp__law_sack : DSp := fun ds G R => match ds with
  | [.int x, .int k] => 0 ≤ k ∧ k ≤ 1000 ∧ ∀ p o, G p = none → SackO 0 o → R (.ref p) (gup G p o)
  | _ => False
theorem ok__law_sack {P : Program} {w : World} {K : PySem.W.Frag} {mg : Str → Option Value} {base : Heap} {a : Ad} (T : Tx w K mg a) : FnD P w K mg base 1 a.f__law_sack a.fd__law_sack ["cell", "k"] sp__law_sack := by
  refine fun_okD T.F__law_sack sc__law_sack (fun ds G R h => ?_) (fun cdv A outer s H hr => ⟨_, (qss_one (qs_ret (qe_lst true (qa_cons (qe_callB (cd_max2 rfl) rfl T.n_max (by decide +kernel) (qa_cons qe_int (qa_cons (qe_op od_sub (qv 0) (qe_op od_pow qe_int qe_int)) qa_nil))) (qa_cons (qe_op (od_add false) (qe_op od_mod (qv 0) (qe_op (od_add false) (qe_op od_pow qe_int qe_int) qe_int)) (qe_op od_mul qe_int (qv 1))) (qa_cons qe_int qa_nil)))))), fun ds G R h => ?_⟩)
  · unfold sp__law_sack at h; split at h; rfl; exact h.elim
  · unfold sp__law_sack at h
    split at h
    · rename_i x k
      obtain ⟨h0, h1, h⟩ := h
      walk_at "d"
      simp only [dPow, dMinus, dMod, dMul, dAdd, dI, dI0, dMax2]
      have p10 : ∀ k : Int, 0 ≤ k → k ≤ 100 → CPowX 10 k := fun k h0 h1 => pow_ok (n := 4) (by decide) (by decide) h0 h1 (by decide)
      refine ⟨p10 _ (by decide) (by decide), p10 _ (by decide) (by decide), ⟨by decide, mul_ok (by decide) (by decide), by decide, fun p np => ret_same (h p _ np ⟨_, _, _, rfl, ?_, ?_, ?_, by decide, by decide⟩)⟩⟩
      · split <;> omega
      · simp only [Int.reduceToNat, Int.reducePow, Int.reduceAdd]
        omega
      · simp only [Int.reduceToNat, Int.reducePow, Int.reduceAdd]
        omega
    · exact h.elim
def sp__law_pull : DSp := fun ds G R => match ds with
  | [.ref s, .int m] => ∃ n o, G s = some o ∧ SackO n o ∧ n ≤ 1000000 ∧ 1 ≤ m ∧ m < 2 ^ 64 ∧ ∀ (r : Nat) o', (r : Int) < m → SackO (n + 1) o' → R (.int r) (gup G s o')
  | _ => False
theorem ok__law_pull {P : Program} {w : World} {K : PySem.W.Frag} {mg : Str → Option Value} {base : Heap} {a : Ad} (T : Tx w K mg a) : FnD P w K mg base 1 a.f__law_pull a.fd__law_pull ["sack", "many"] sp__law_pull := by
  refine fun_okD T.F__law_pull sc__law_pull (fun ds G R h => ?_) (fun cdv A outer s H hr => ⟨_, (qss_cons (qs_if (qt_cmp od_gt (qe_ix xd_ix (qv 0) qe_int (fun _ _ => rfl)) qe_int (nomark _))
      (qss_cons (qs_set (i := 2) sc__law_pull.nd rfl (.inl rfl) (qe_op od_mod (qe_ix xd_ix (qv 0) qe_int (fun _ _ => rfl)) (qv 1)))
      (qss_cons (qs_asg (qe_op od_fdiv (qe_ix xd_ix (qv 0) qe_int (fun _ _ => rfl)) (qv 1)) (qg_sub (qv 0) qe_int sd_set))
      (qss_one (qs_ret (qv 2)))))
      qss_nil)
      (qss_cons (qs_augS (qv 0) qe_int gd_ix qe_int od_iadd sd_set)
      (qss_cons (qs_set (i := 3) sc__law_pull.nd rfl (.inl rfl) (qe_op od_mod (qe_op od_pow (qe_op (od_add false) (qe_ix xd_ix (qv 0) qe_int (fun _ _ => rfl)) (qe_op od_mul qe_int (qe_ix xd_ix (qv 0) qe_int (fun _ _ => rfl)))) qe_int) (qe_op (od_add false) (qe_op od_pow qe_int qe_int) qe_int)))
      (qss_cons (qs_set (i := 3) sc__law_pull.nd rfl (.inl rfl) (qe_op od_mod (qe_op od_pow (qe_op (od_add false) (qv 3) (qe_op od_mul (qe_op od_mul qe_int (qe_ix xd_ix (qv 0) qe_int (fun _ _ => rfl))) (qe_ix xd_ix (qv 0) qe_int (fun _ _ => rfl)))) qe_int) (qe_op (od_add false) (qe_op od_pow qe_int qe_int) qe_int)))
      (qss_one (qs_ret (qe_op od_mod (qe_op od_fdiv (qv 3) qe_int) (qv 1)))))))), fun ds G R h => ?_⟩)
  · unfold sp__law_pull at h; split at h; rfl; exact h.elim
  · unfold sp__law_pull at h
    split at h
    · rename_i s m
      obtain ⟨n, o, e, ⟨a, b, c, rfl, ha, hb, hb2, hc, hc2⟩, hn, hm, hm2, h⟩ := h
      walk_at "d"
      have at0 : atI [D.int a, D.int b, D.int c] 0 = some (.int a) := rfl
      have at1 : atI [D.int a, D.int b, D.int c] 1 = some (.int b) := rfl
      have at2 : atI [D.int a, D.int b, D.int c] 2 = some (.int c) := rfl
      simp only [dIx, seqOf, lstOf, e, at0, at2, dGt, dOrd]
      by_cases h0 : 0 < a
      · rw [decide_eq_true h0]
        simp only [dMod, dFdiv, dI, e, at0, dSetI]
        refine ⟨by omega, div_ok (by omega) hm2, ?_⟩
        have eix : ixN [D.int a, D.int b, D.int c].length 0 = some 0 := rfl
        simp only [eix, List.set_cons_zero]
        have hr1 := Int.emod_nonneg a (show m ≠ 0 by omega)
        have hr2 := Int.emod_lt_of_pos a (show 0 < m by omega)
        have er : a % m = ((a % m).toNat : Int) := by omega
        rw [er]
        exact ret_same (h _ _ (by omega) ⟨_, _, _, rfl, Int.ediv_nonneg ha (by omega), hb, hb2, hc, by omega⟩)
      · rw [decide_eq_false h0]
        have eix : ixN [D.int a, D.int b, D.int c].length 2 = some 2 := rfl
        have at1' : atI [D.int a, D.int b, D.int (c + 1)] 1 = some (.int b) := rfl
        have at2' : atI [D.int a, D.int b, D.int (c + 1)] 2 = some (.int (c + 1)) := rfl
        simp only [dGetI, dIadd, e, at2, dSetI, eix, List.set_cons_zero, List.set_cons_succ, gup_same, at1', at2', dMul, dPow, dMod, dFdiv, dAdd, dI]
        have p10 : ∀ k : Int, 0 ≤ k → k ≤ 100 → CPowX 10 k := fun k h0 h1 => pow_ok (n := 4) (by decide) (by decide) h0 h1 (by decide)
        refine ⟨mul_ok (by decide) (by decide), pow_ok (n := 140) ?_ (by decide) (by decide) (by decide) (by decide), p10 _ (by decide) (by decide), by decide, mul_ok (by decide) (by decide), mul_ok' (by omega) (by omega), pow_ok (n := 140) ?_ (by decide) (by decide) (by decide) (by decide), p10 _ (by decide) (by decide), by decide, div_ok (by decide) (by decide), by omega, ?_⟩
        · simp only [Int.reducePow, Nat.reducePow] at hb2 ⊢
          omega
        · have hx := Int.emod_nonneg ((b + 15485863 * (c + 1)) ^ Int.toNat 5) (show (10 : Int) ^ Int.toNat 39 + 3 ≠ 0 by decide)
          have hy := Int.emod_lt_of_pos ((b + 15485863 * (c + 1)) ^ Int.toNat 5) (show (0 : Int) < 10 ^ Int.toNat 39 + 3 by decide)
          generalize (b + 15485863 * (c + 1)) ^ Int.toNat 5 % (10 ^ Int.toNat 39 + 3) = y at hx hy ⊢
          have hz : 0 ≤ 32452843 * (c + 1) * (c + 1) := Int.mul_nonneg (by omega) (by omega)
          have hz2 : 32452843 * (c + 1) * (c + 1) ≤ (32452843 * 1000001) * 1000001 := Int.mul_le_mul (by omega) (by omega) (by omega) (by omega)
          generalize 32452843 * (c + 1) * (c + 1) = z at hz hz2 ⊢
          simp only [Int.reduceToNat, Int.reducePow, Int.reduceAdd, Int.reduceMul, Nat.reducePow] at hy hz2 ⊢
          omega
        · generalize ((b + 15485863 * (c + 1)) ^ Int.toNat 5 % (10 ^ Int.toNat 39 + 3) + 32452843 * (c + 1) * (c + 1)) ^ Int.toNat 3 % (10 ^ Int.toNat 36 + 67) / 1024 = y
          have hr1 := Int.emod_nonneg y (show m ≠ 0 by omega)
          have hr2 := Int.emod_lt_of_pos y (show 0 < m by omega)
          have er : y % m = ((y % m).toNat : Int) := by omega
          rw [er]
          exact ret_same (h _ _ (by omega) ⟨_, _, _, rfl, ha, hb, hb2, by omega, by omega⟩)
    · exact h.elim
/-! ### names drawn -/
theorem nameOk_iff {z : Str} : nameOk z = true ↔ (1 ≤ (cds z).length ∧ (cds z).length ≤ 8) ∧ ∀ c ∈ cds z, low c = true := by
  unfold nameOk
  rw [cds_len]
  simp only [Bool.and_eq_true, decide_eq_true_eq, List.all_eq_true]
theorem letters_at : ∀ r : Nat, r < 26 → atI letters.cps.toList (r : Int) = some (97 + r) := by
  rw [letters_list]; decide
theorem low_at {r : Nat} (h : r < 26) : low (97 + r) = true := by
  simp only [low, Bool.and_eq_true, decide_eq_true_eq]; omega
def someZ : List Str := ["a", "b", "x", "acc", "h", "abcdefgh", "if", "then", "nop", "hidden", "put", "reg", "add", "alu", "else", "or", "less"]
theorem someZ_ok : ∀ z ∈ someZ, nameOk z = true := by decide +kernel
theorem someZ_at (r : Nat) (h : r < 17) : ∃ z, atI (someZ.map D.str) (r : Int) = some (.str z) ∧ nameOk z = true := by
  have hl : r < someZ.length := h
  refine ⟨someZ[r], atI_nat (by rw [List.getElem?_map, List.getElem?_eq_getElem hl] <;> rfl), someZ_ok _ (List.getElem_mem hl)⟩
/-- what a drawn list of names is -/
structure NamesOk (names : List Str) : Prop where
  ok : ∀ z ∈ names, nameOk z = true
  nd : names.Nodup
def zn (i : Nat) : Str := Str.ofString "z" ++ ⟨#[97 + i]⟩
theorem zn_cds (i : Nat) : cds (zn i) = [122, 97 + i] := by unfold zn; rw [cds_app, show cds (Str.ofString "z") = [122] by decide +kernel] <;> rfl
theorem zn_inj {i j : Nat} (h : zn i = zn j) : i = j := by
  have := congrArg cds h
  rw [zn_cds, zn_cds] at this
  injection this with _ h2
  injection h2 with h3 _
  omega
theorem zn_ok {i : Nat} (h : i < 26) : nameOk (zn i) = true := by
  rw [nameOk_iff, zn_cds]
  refine ⟨by simp, fun c hc => ?_⟩
  simp only [List.mem_cons, List.not_mem_nil, or_false] at hc
  rcases hc with rfl | rfl
  · rfl
  · exact low_at h
def sp__law_names : DSp := fun ds G R => match ds with
  | [.ref s, .int m] => ∃ n o, G s = some o ∧ SackO n o ∧ n ≤ 900000 ∧ 1 ≤ m ∧ m ≤ 6 ∧ ∀ names o', names.length = m.toNat → NamesOk names → SackO (n + 100) o' → R (.lst (names.map .str)) (gup G s o')
  | _ => False
theorem ok__law_names {P : Program} {w : World} {K : PySem.W.Frag} {mg : Str → Option Value} {base : Heap} {a : Ad} (T : Tx w K mg a) : FnD P w K mg base 2 a.f__law_names a.fd__law_names ["sack", "many"] sp__law_names := by
  refine fun_okD T.F__law_names sc__law_names (fun ds G R h => ?_) (fun cdv A outer s H hr => ⟨_, (qss_cons (qs_set (i := 2) sc__law_names.nd rfl (.inr rfl) qe_str)
      (qss_cons (qs_set (i := 3) sc__law_names.nd rfl (.inl rfl) (qe_lst false (qa_cons qe_str (qa_cons qe_str (qa_cons qe_str (qa_cons qe_str (qa_cons qe_str (qa_cons qe_str (qa_cons qe_str (qa_cons qe_str (qa_cons qe_str (qa_cons qe_str (qa_cons qe_str (qa_cons qe_str (qa_cons qe_str (qa_cons qe_str qa_nil))))))))))))))))
      (qss_cons (qs_set (i := 3) sc__law_names.nd rfl (.inl rfl) (qe_op (od_add false) (qv 3) (qe_lst false (qa_cons qe_str (qa_cons qe_str (qa_cons qe_str qa_nil))))))
      (qss_cons (qs_set (i := 4) sc__law_names.nd rfl (.inl rfl) (qe_lst true qa_nil))
      (qss_cons (qs_for PassesOwn.never rfl (qi_range1 rfl T.n_range (qa_cons (qv 1) qa_nil)) (qg_of (pg_name (i := 5) sc__law_names.nd rfl (.inl rfl)) (tg_name (i := 5) (ws := [5]) (by decide)))
      (qss_cons (qs_set (i := 6) sc__law_names.nd rfl (.inl rfl) (qe_ix xd_ix (qv 3) (qe_call (ok__law_pull T) (hr.mono (by omega)) rfl T.g__law_pull T.F__law_pull.kp T.b__law_pull (qa_cons (qv 0) (qa_cons qe_int qa_nil))) (fun _ _ => rfl)))
      (qss_cons (qs_if (qt_cmp (od_eq hr.units) (qe_call (ok__law_pull T) (hr.mono (by omega)) rfl T.g__law_pull T.F__law_pull.kp T.b__law_pull (qa_cons (qv 0) (qa_cons qe_int qa_nil))) qe_int (nomark _))
      (qss_one (qs_set (i := 6) sc__law_names.nd rfl (.inl rfl) (qe_m PySem.F.plainAttrs_str PySem.F.slot_str_join PySem.F.type_str_join md_join qe_str (qa_cons (qe_lc false rfl sc__law_names.nd (qi_range1 rfl T.n_range (qa_cons (qe_op (od_add false) qe_int (qe_call (ok__law_pull T) (hr.mono (by omega)) rfl T.g__law_pull T.F__law_pull.kp T.b__law_pull (qa_cons (qv 0) (qa_cons qe_int qa_nil)))) qa_nil)) (blkOk_by (own := [("j", 8)]) (N := N__law_names) (sc := defScope s__law_names) (by decide +kernel)) (fun _ _ _ _ _ => (pg_name (i := 8) sc__law_names.nd rfl (.inl rfl))) (tg_name (i := 8) (by decide)) (fun _ _ _ _ _ => qts_nil) (fun _ _ _ _ _ => (qe_ix xd_ix (qv 2) (qe_call (ok__law_pull T) (hr.mono (by omega)) rfl T.g__law_pull T.F__law_pull.kp T.b__law_pull (qa_cons (qv 0) (qa_cons qe_int qa_nil))) (fun _ _ => rfl)))) qa_nil))))
      qss_nil)
      (qss_cons (qs_if (QW.pt (qw_and (qt_cmp (od_ne hr.units) (qv 4) (qe_lst false qa_nil) (nomark _)) (qw_and1 (qt_cmp (od_eq hr.units) (qe_call (ok__law_pull T) (hr.mono (by omega)) rfl T.g__law_pull T.F__law_pull.kp T.b__law_pull (qa_cons (qv 0) (qa_cons qe_int qa_nil))) qe_int (nomark _)))))
      (qss_one (qs_set (i := 6) sc__law_names.nd rfl (.inl rfl) (qe_op (od_add false) (qe_slice false (qe_ix xd_ix (qv 4) (qe_un od_neg qe_int) (fun _ _ => rfl)) qo_none (qo_some (qe_un od_neg qe_int))) (qe_ix xd_ix (qv 2) (qe_call (ok__law_pull T) (hr.mono (by omega)) rfl T.g__law_pull T.F__law_pull.kp T.b__law_pull (qa_cons (qv 0) (qa_cons qe_int qa_nil))) (fun _ _ => rfl)))))
      qss_nil)
      (qss_cons (qs_set (i := 7) sc__law_names.nd rfl (.inl rfl) qe_int)
      (qss_cons (qs_while PassesOwn.never (qt_cmp od_in (qv 6) (qv 4) rfl)
      (qss_cons (qs_set (i := 6) sc__law_names.nd rfl (.inl rfl) (qe_op (od_add false) qe_str (qe_ix xd_ix (qv 2) (qv 7) (fun _ _ => rfl))))
      (qss_one (qs_set (i := 7) sc__law_names.nd rfl (.inl rfl) (qe_op (od_add false) (qv 7) qe_int)))))
      (qss_one (qs_expr (qe_m PySem.F.plainAttrs_list PySem.F.slot_list_append PySem.F.type_list_append md_append (qv 4) (qa_cons (qv 6) qa_nil))))))))))
      (qss_one (qs_ret (qv 4)))))))), fun ds G R h => ?_⟩)
  · unfold sp__law_names at h; split at h; rfl; exact h.elim
  · unfold sp__law_names at h
    split at h
    · rename_i s m
      obtain ⟨n, o, e, ho, hn, hm, hm2, h⟩ := h
      simp only [dSeq, dAsg, dC, dName, dLst, dCons, dNil, newL, startD, List.map_cons, List.map_nil, List.length_cons, List.length_nil, List.replicate, List.cons_append, List.nil_append, Nat.zero_add, Nat.reduceAdd, Nat.reduceSub, List.set_cons_zero, List.set_cons_succ, dOp, dVar, List.getElem?_cons_zero, List.getElem?_cons_succ, dAdd, lstOf]
      refine ⟨by decide, by decide, by decide, by decide, fun p np => ?_⟩
      have hsp : s ≠ p := gne e np
      simp only [dFor, dRng1, dCons, dNil, dVar, List.getElem?_cons_zero, List.getElem?_cons_succ]
      refine ⟨by omega, by omega, ?_⟩
      show dForGo _ _ _ _ (rng 0 m.toNat) [some (D.ref s), some (D.int m), some (D.str letters), some (D.lst (someZ.map D.str)), some (D.ref p), none, none, none, none] _
      refine for_go (fun rest σ G' => ∃ names o' x5 x6 x7 x8, σ = [some (D.ref s), some (D.int m), some (D.str letters), some (D.lst (someZ.map D.str)), some (D.ref p), x5, x6, x7, x8] ∧ G' = gup (gup G p (.lst (names.map D.str))) s o' ∧ SackO (n + 13 * names.length) o' ∧ names.length + rest.length = m.toNat ∧ NamesOk names) ?turn ?fin _ _ _ ?init
      case init =>
        refine ⟨[], o, none, none, none, none, rfl, ?_, ho.mono (by simp), by rw [rng_length]; simp, ⟨fun z hz => (by cases hz), List.nodup_nil⟩⟩
        exact (gup_self (by rw [gup_ne hsp]; exact e)).symm
      case fin =>
        rintro σ G' ⟨names, o', x5, x6, x7, x8, rfl, rfl, hs, hl, hok⟩
        refine ⟨True.intro, ?_⟩
        simp only [dRet, dVar, List.getElem?_cons_zero, List.getElem?_cons_succ]
        have hl' : names.length = m.toNat := by simpa using hl
        have hp0 : gup G s o' p = none := by rw [gup_ne hsp.symm]; exact np
        refine ret_lst (ds := names.map D.str) (G0 := gup G s o') (by rw [gup_ne hsp.symm, gup_same]) ?_ hp0 (h names o' hl' hok (hs.mono (by omega)))
        rw [gup_comm hsp.symm]
        exact Sub.new hp0
      case turn =>
        rintro x rest σ G' ⟨names, o', x5, x6, x7, x8, rfl, rfl, hs, hl, hok⟩
        refine ⟨True.intro, fun N hN => ?_⟩
        have hGp : ∀ o1 L, (gup (gup G p (.lst L)) s o1) p = some (.lst L) := fun _ _ => by rw [gup_ne hsp.symm, gup_same]
        have hlen : names.length ≤ 5 := by simp only [List.length_cons] at hl; omega
        simp only [dName, List.set_cons_zero, List.set_cons_succ]
        -- name = some[..]
        refine seq_cut (fun σ' G' => ∃ z o1, σ' = [some (D.ref s), some (D.int m), some (D.str letters), some (D.lst (someZ.map D.str)), some (D.ref p), some x, some (.str z), x7, x8] ∧ G' = gup (gup G p (.lst (names.map D.str))) s o1 ∧ SackO (n + 13 * names.length + 1) o1 ∧ nameOk z = true) ?_ (fun N1 hN1 => ?_)
        rotate_left
        · walk_at "d"
          refine ⟨_, _, gup_same, hs, by omega, by decide, by decide, fun r o1 hr ho1 => ?_⟩
          rw [gup_gup]
          obtain ⟨z, ez, hz⟩ := someZ_at r (by omega)
          simp only [dIx, seqOf, lstOf, ez]
          exact hN1 _ _ ⟨z, o1, rfl, rfl, ho1, hz⟩
        rintro σ G' ⟨z, o1, rfl, rfl, ho1, hz⟩
        -- if .. name = ''.join(..)
        refine seq_cut (fun σ' G' => ∃ z o1 x8, σ' = [some (D.ref s), some (D.int m), some (D.str letters), some (D.lst (someZ.map D.str)), some (D.ref p), some x, some (.str z), x7, x8] ∧ G' = gup (gup G p (.lst (names.map D.str))) s o1 ∧ SackO (n + 13 * names.length + 11) o1 ∧ nameOk z = true) ?_ (fun N1 hN1 => ?_)
        rotate_left
        · walk_at "d"
          refine ⟨_, _, gup_same, ho1, by omega, by decide, by decide, fun r o2 hr ho2 => ?_⟩
          rw [gup_gup]
          simp only [dEq, dEqW, id]
          by_cases hr0 : (r : Int) = 0
          · rw [decide_eq_true hr0]
            refine ⟨rfl, ?_⟩
            refine ⟨_, _, gup_same, ho2, by omega, by decide, by decide, fun r3 o3 hr3 ho3 => ?_⟩
            rw [gup_gup]
            simp only [dAdd]
            refine ⟨by omega, by omega, by rw [rng_length]; exact small_line (by omega), ?_⟩
            refine lc_go (fun xs acc G' => ∃ cs o4, acc = (cs.map fun c => (⟨#[c]⟩ : Str)).map D.str ∧ (∀ c ∈ cs, low c = true) ∧ G' = gup (gup G p (.lst (names.map D.str))) s o4 ∧ SackO (n + 13 * names.length + 3 + cs.length) o4 ∧ cs.length + xs.length = (1 + (r3 : Int)).toNat) ?_ ?_ _ _ _ ⟨[], o3, rfl, (fun c hc => by cases hc), rfl, ho3.mono (by simp), by rw [rng_length]; simp⟩
            · rintro y ys acc G' ⟨cs, o4, rfl, hcs, rfl, ho4, hl4⟩
              refine ⟨True.intro, fun N2 hN2 => ?_⟩
              walk_at "d"
              simp only [List.length_cons] at hl4
              refine ⟨_, _, gup_same, ho4, by omega, by decide, by decide, fun r5 o5 hr5 ho5 => ?_⟩
              rw [gup_gup]
              simp only [dIx, letters_at r5 (by omega)]
              refine ⟨by decide +kernel, hN2 _ _ ⟨cs ++ [97 + r5], o5, by simp, ?_, rfl, ho5.mono (by simp; omega), by simp; omega⟩⟩
              intro c hc
              rcases List.mem_append.mp hc with hc | hc
              · exact hcs c hc
              · rw [List.mem_singleton] at hc; subst hc; exact low_at (by omega)
            · rintro acc G' ⟨cs, o4, rfl, hcs, rfl, ho4, hl4⟩
              refine ⟨True.intro, ?_⟩
              simp only [dJoin, seqOf, lstOf, Option.bind_some, strsOf_map]
              have hl5 : cs.length = (1 + (r3 : Int)).toNat := by simpa using hl4
              have hsum : ((cs.map fun c => (⟨#[c]⟩ : Str)).map (·.length)).sum = cs.length := by
                clear hcs hl4 hl5 ho4
                induction cs with
                | nil => rfl
                | cons c cs ih =>
                  simp only [List.map_cons, List.sum_cons, List.length_cons, ih]
                  show 1 + cs.length = cs.length + 1
                  omega
              have hj : cds (Txt.join (Str.ofString "") (cs.map fun c => (⟨#[c]⟩ : Str))) = cs := by
                rw [cds_join0 (by decide +kernel)]
                clear hcs hl4 hl5 ho4 hsum
                induction cs with
                | nil => rfl
                | cons c cs ih =>
                  simp only [List.map_cons, List.flatten_cons]
                  rw [ih] <;> rfl
              refine ⟨?_, hN1 _ _ ⟨_, o4, _, rfl, rfl, ho4.mono (by omega), ?_⟩⟩
              · rw [hsum, show (Str.ofString "").length = 0 by decide +kernel]; simp; omega
              · rw [nameOk_iff, hj]
                exact ⟨by omega, hcs⟩
          · rw [decide_eq_false hr0]
            exact hN1 _ _ ⟨z, o2, x8, rfl, rfl, ho2.mono (by omega), hz⟩
        rintro σ G' ⟨z, o1, x8, rfl, rfl, ho1, hz⟩
        -- if found != [] ..
        refine seq_cut (fun σ' G' => ∃ z o1, σ' = [some (D.ref s), some (D.int m), some (D.str letters), some (D.lst (someZ.map D.str)), some (D.ref p), some x, some (.str z), x7, x8] ∧ G' = gup (gup G p (.lst (names.map D.str))) s o1 ∧ SackO (n + 13 * names.length + 13) o1 ∧ nameOk z = true) ?_ (fun N1 hN1 => ?_)
        rotate_left
        · walk_at "d"
          refine ⟨by decide, ?_⟩
          have hpy : pyD (.lst (names.map D.str)) = true := by
            simp only [pyD]
            refine pyDs_of fun d hd => ?_
            obtain ⟨y, hy, rfl⟩ := List.mem_map.mp hd
            simp only [pyD, List.all_eq_true, decide_eq_true_eq]
            intro c hc
            have := (nameOk_iff.mp (hok.ok y hy)).2 c hc
            simp only [low, Bool.and_eq_true, decide_eq_true_eq] at this
            omega
          have hdep : depD (.lst (names.map D.str)) ≤ 64 := by
            simp only [depD]
            have := depDs_le (ds := names.map D.str) (n := 0) fun d hd => by
              obtain ⟨y, hy, rfl⟩ := List.mem_map.mp hd
              exact Nat.le_refl _
            omega
          unfold dNe
          rw [eqW_ref (hGp _ _), eqW_pure hpy (by simp only [pyD, pyDs]) hdep (by decide)]
          cases hnm : names with
          | nil =>
            simp only [List.map_nil, eqD, eqDs, Bool.not_true]
            exact hN1 _ _ ⟨z, o1, rfl, by rw [hnm] <;> rfl, ho1.mono (by omega), hz⟩
          | cons y ys =>
            rw [← hnm]
            have e0 : eqD (.lst (names.map D.str)) (.lst []) = false := by rw [hnm]; simp only [List.map_cons, eqD, eqDs]
            simp only [e0, Bool.not_false]
            refine ⟨_, _, gup_same, ho1, by omega, by decide, by decide, fun r o2 hr ho2 => ?_⟩
            rw [gup_gup]
            simp only [dEq, dEqW, id]
            by_cases hr0 : (r : Int) = 0
            · rw [decide_eq_true hr0]
              have hne : names ≠ [] := by rw [hnm]; exact List.cons_ne_nil _ _
              have hlast : (names.map D.str).getLast? = some (.str (names.getLast hne)) := by
                rw [List.getLast?_map, List.getLast?_eq_getLast hne] <;> rfl
              have hlok := nameOk_iff.mp (hok.ok _ (List.getLast_mem hne))
              simp only [dNeg, dIx, seqOf, lstOf, hGp, atI_neg1 hlast, dSl]
              refine ⟨by rw [← cds_len]; exact small_line (by omega), ?_⟩
              refine ⟨_, _, gup_same, ho2, by omega, by decide, by decide, fun r5 o5 hr5 ho5 => ?_⟩
              rw [gup_gup]
              simp only [letters_at r5 (by omega), dAdd]
              have hcut : cds (cutS (names.getLast hne) none (some (-1))) = (cds (names.getLast hne)).dropLast := by rw [cds_cut, cut_init]
              have hcl : (cutS (names.getLast hne) none (some (-1))).length ≤ 7 := by
                rw [← cds_len, hcut, List.length_dropLast]; omega
              refine ⟨by decide +kernel, Nat.le_trans (Nat.add_le_add_right hcl 1) (by decide), hN1 _ _ ⟨_, o5, rfl, rfl, ho5.mono (by omega), ?_⟩⟩
              rw [nameOk_iff, cds_app, hcut]
              have e1 : cds ⟨#[97 + r5]⟩ = [97 + r5] := rfl
              rw [e1]
              refine ⟨by simp only [List.length_append, List.length_dropLast, List.length_cons, List.length_nil]; omega, fun c hc => ?_⟩
              rcases List.mem_append.mp hc with hc | hc
              · rw [List.dropLast_eq_take] at hc
                exact hlok.2 c (List.mem_of_mem_take hc)
              · rw [List.mem_singleton] at hc; subst hc; exact low_at (by omega)
            · rw [decide_eq_false hr0]
              exact hN1 _ _ ⟨z, o2, rfl, rfl, ho2.mono (by omega), hz⟩
        rintro σ G' ⟨z, o1, rfl, rfl, ho1, hz⟩
        -- step = 0; while ..; append
        walk_at "d"
        refine ⟨6 + 1, wh_go (fun k σ' G' => ∃ (t : Nat) (y : Str), k + t = 6 ∧ σ' = [some (D.ref s), some (D.int m), some (D.str letters), some (D.lst (someZ.map D.str)), some (D.ref p), some x, some (.str y), some (.int t), x8] ∧ G' = gup (gup G p (.lst (names.map D.str))) s o1 ∧ nameOk y = true ∧ (t = 0 ∨ y = zn (t - 1)) ∧ ∀ i, i + 1 < t → zn i ∈ names) ?_ 6 _ _ ⟨0, z, rfl, rfl, rfl, hz, .inl rfl, fun i hi => by omega⟩⟩
        rintro k σ' G' ⟨t, y, hk, rfl, rfl, hy, hyt, hin⟩ N1 hN1
        walk_at "d"
        simp only [dIn, dInW, seqOf, lstOf, hGp, flatD, flat_strs', in_strs, id]
        refine ⟨True.intro, True.intro, ?_⟩
        by_cases hmem : y ∈ names
        · rw [decide_eq_true hmem]
          have hall : ∀ i, i < t → zn i ∈ names := by
            intro i hi
            by_cases h1 : i + 1 < t
            · exact hin i h1
            · have : i = t - 1 := by omega
              rcases hyt with h2 | h2
              · omega
              · rw [this, ← h2]; exact hmem
          have hle : t ≤ names.length := by
            have := nodup_sub (l1 := (List.range t).map zn) (l2 := names) (by
              refine List.pairwise_map.mpr (List.nodup_range.imp fun h e => h (zn_inj e))) (fun w hw => by
              obtain ⟨i, hi, rfl⟩ := List.mem_map.mp hw
              exact hall i (List.mem_range.mp hi))
            simpa using this
          simp only [dIx, letters_at t (by omega), dAdd]
          refine ⟨by decide +kernel, (by show (Str.ofString "z").length + 1 ≤ sizeLine; decide +kernel), ?_⟩
          refine hN1 (k - 1) _ _ (by omega) ⟨t + 1, zn t, by omega, rfl, rfl, zn_ok (by omega), .inr rfl, fun i hi => hall i (by omega)⟩
        · rw [decide_eq_false hmem]
          simp only [mty, hGp, dAppend]
          refine ⟨True.intro, by rw [List.length_map]; exact small1000 (by omega), hN _ _ ⟨names ++ [y], o1, _, _, _, _, rfl, ?_, ho1.mono (by simp; omega), by simp only [List.length_append, List.length_cons, List.length_nil] at hl ⊢; omega, ?_, ?_⟩⟩
          · rw [gup_comm hsp, gup_gup, List.map_append] <;> rfl
          · intro w hw
            rcases List.mem_append.mp hw with hw | hw
            · exact hok.ok w hw
            · rw [List.mem_singleton] at hw; subst hw; exact hy
          · rw [List.nodup_append]
            exact ⟨hok.nd, by simp, fun a ha b hb => by rw [List.mem_singleton] at hb; subst hb; intro e; subst e; exact hmem ha⟩
    · exact h.elim
/-! ### machines drawn -/
/-- a machine, by its parts -/
structure MachP (b : Int) (names : List Str) (h al mo c : Int) : Prop where
  b1 : 1 ≤ b
  b2 : b ≤ 8
  n1 : 1 ≤ names.length
  n2 : names.length ≤ 6
  nm : NamesOk names
  h1 : 0 ≤ h
  h2 : h ≤ 12
  a1 : 1 ≤ al
  a2 : al ≤ 3
  m1 : 1 ≤ mo
  m2 : mo ≤ 3
  c1 : 0 ≤ c
  c2 : c ≤ 2 ^ b.toNat
def machD (b : Int) (names : List Str) (h al mo c : Int) : D := .tup [.int b, .tup (names.map .str), .int h, .int al, .int mo, .int c]
theorem top_le {b : Int} (h1 : 1 ≤ b) (h2 : b ≤ 8) : (2 : Int) ≤ 2 ^ b.toNat ∧ (2 : Int) ^ b.toNat ≤ 256 := by
  have : b = 1 ∨ b = 2 ∨ b = 3 ∨ b = 4 ∨ b = 5 ∨ b = 6 ∨ b = 7 ∨ b = 8 := by omega
  rcases this with rfl | rfl | rfl | rfl | rfl | rfl | rfl | rfl <;> decide
def sp__law_own : DSp := fun ds G R => match ds with
  | [.ref s] => ∃ n o, G s = some o ∧ SackO n o ∧ n ≤ 800000 ∧ ∀ b names h al mo c o', MachP b names h al mo c → SackO (n + 120) o' → R (machD b names h al mo c) (gup G s o')
  | _ => False
theorem ok__law_own {P : Program} {w : World} {K : PySem.W.Frag} {mg : Str → Option Value} {base : Heap} {a : Ad} (T : Tx w K mg a) : FnD P w K mg base 3 a.f__law_own a.fd__law_own ["sack"] sp__law_own := by
  refine fun_okD T.F__law_own sc__law_own (fun ds G R h => ?_) (fun cdv A outer s H hr => ⟨_, (qss_cons (qs_set (i := 1) sc__law_own.nd rfl (.inl rfl) (qe_op (od_add false) qe_int (qe_call (ok__law_pull T) (hr.mono (by omega)) rfl T.g__law_pull T.F__law_pull.kp T.b__law_pull (qa_cons (qv 0) (qa_cons qe_int qa_nil)))))
      (qss_cons (qs_set (i := 2) sc__law_own.nd rfl (.inl rfl) (qe_call (ok__law_names T) (hr.mono (by omega)) rfl T.g__law_names T.F__law_names.kp T.b__law_names (qa_cons (qv 0) (qa_cons (qe_op (od_add false) qe_int (qe_call (ok__law_pull T) (hr.mono (by omega)) rfl T.g__law_pull T.F__law_pull.kp T.b__law_pull (qa_cons (qv 0) (qa_cons qe_int qa_nil)))) qa_nil))))
      (qss_cons (qs_set (i := 3) sc__law_own.nd rfl (.inl rfl) (qe_ix xd_ix (qe_lst false (qa_cons (qe_call (ok__law_pull T) (hr.mono (by omega)) rfl T.g__law_pull T.F__law_pull.kp T.b__law_pull (qa_cons (qv 0) (qa_cons qe_int qa_nil))) (qa_cons (qe_call (ok__law_pull T) (hr.mono (by omega)) rfl T.g__law_pull T.F__law_pull.kp T.b__law_pull (qa_cons (qv 0) (qa_cons qe_int qa_nil))) qa_nil))) (qe_call (ok__law_pull T) (hr.mono (by omega)) rfl T.g__law_pull T.F__law_pull.kp T.b__law_pull (qa_cons (qv 0) (qa_cons qe_int qa_nil))) (fun _ _ => rfl)))
      (qss_cons (qs_set (i := 4) sc__law_own.nd rfl (.inl rfl) (qe_op od_shl qe_int (qv 1)))
      (qss_cons (qs_set (i := 5) sc__law_own.nd rfl (.inl rfl) (qe_ix xd_ix (qe_lst false (qa_cons qe_int (qa_cons (qe_call (ok__law_pull T) (hr.mono (by omega)) rfl T.g__law_pull T.F__law_pull.kp T.b__law_pull (qa_cons (qv 0) (qa_cons (qe_op (od_add false) (qe_callB (cd_min2 rfl) rfl T.n_min (by decide +kernel) (qa_cons (qv 4) (qa_cons qe_int qa_nil))) qe_int) qa_nil))) (qa_cons (qv 4) (qa_cons (qe_call (ok__law_pull T) (hr.mono (by omega)) rfl T.g__law_pull T.F__law_pull.kp T.b__law_pull (qa_cons (qv 0) (qa_cons (qe_op (od_add false) (qv 4) qe_int) qa_nil))) qa_nil))))) (qe_call (ok__law_pull T) (hr.mono (by omega)) rfl T.g__law_pull T.F__law_pull.kp T.b__law_pull (qa_cons (qv 0) (qa_cons qe_int qa_nil))) (fun _ _ => rfl)))
      (qss_one (qs_ret (qe_tup (qa_cons (qv 1) (qa_cons (qe_callTy cd_tuple rfl T.n_tuple (by decide +kernel) (qa_cons (qv 2) qa_nil)) (qa_cons (qv 3) (qa_cons (qe_op (od_add false) qe_int (qe_call (ok__law_pull T) (hr.mono (by omega)) rfl T.g__law_pull T.F__law_pull.kp T.b__law_pull (qa_cons (qv 0) (qa_cons qe_int qa_nil)))) (qa_cons (qe_op (od_add false) qe_int (qe_call (ok__law_pull T) (hr.mono (by omega)) rfl T.g__law_pull T.F__law_pull.kp T.b__law_pull (qa_cons (qv 0) (qa_cons qe_int qa_nil)))) (qa_cons (qv 5) qa_nil)))))))))))))), fun ds G R h => ?_⟩)
  · unfold sp__law_own at h; split at h; rfl; exact h.elim
  · unfold sp__law_own at h
    split at h
    · rename_i s
      obtain ⟨n, o, e, ho, hn, h⟩ := h
      walk_at "d"
      refine ⟨_, _, e, ho, by omega, by decide, by decide, fun r1 o1 hr1 ho1 => ?_⟩
      walk_at "o"
      refine ⟨_, _, gup_same, ho1, by omega, by decide, by decide, fun r2 o2 hr2 ho2 => ?_⟩
      rw [gup_gup]
      walk_at "o"
      refine ⟨_, _, gup_same, ho2, by omega, by omega, by omega, fun names o3 hl hnm ho3 => ?_⟩
      rw [gup_gup]
      refine ⟨_, _, gup_same, ho3, by omega, by decide, by decide, fun r4 o4 hr4 ho4 => ?_⟩
      rw [gup_gup]
      refine ⟨_, _, gup_same, ho4, by omega, by decide, by decide, fun r5 o5 hr5 ho5 => ?_⟩
      rw [gup_gup]
      refine ⟨by decide, ?_⟩
      refine ⟨_, _, gup_same, ho5, by omega, by decide, by decide, fun r6 o6 hr6 ho6 => ?_⟩
      rw [gup_gup]
      have ehid : ∃ hv : Int, atI [D.int (r4 : Int), D.int (r5 : Int)] (r6 : Int) = some (.int hv) ∧ 0 ≤ hv ∧ hv ≤ 12 := by
        have : r6 = 0 ∨ r6 = 1 := by omega
        rcases this with rfl | rfl
        · exact ⟨r4, rfl, by omega, by omega⟩
        · exact ⟨r5, rfl, by omega, by omega⟩
      obtain ⟨hv, ehid, hh1, hh2⟩ := ehid
      walk_at "o"
      simp only [ehid]
      have htop := top_le (b := 1 + (r1 : Int)) (by omega) (by omega)
      refine ⟨shl_ok (by omega) (by omega), ?_⟩
      simp only [Int.one_mul]
      generalize etop : (2 : Int) ^ (1 + (r1 : Int)).toNat = top at htop ⊢
      refine ⟨_, _, gup_same, ho6, by omega, by split <;> omega, by split <;> omega, fun r7 o7 hr7 ho7 => ?_⟩
      rw [gup_gup]
      refine ⟨_, _, gup_same, ho7, by omega, by omega, by omega, fun r8 o8 hr8 ho8 => ?_⟩
      rw [gup_gup]
      refine ⟨by decide, ?_⟩
      refine ⟨_, _, gup_same, ho8, by omega, by decide, by decide, fun r9 o9 hr9 ho9 => ?_⟩
      rw [gup_gup]
      have ecell : ∃ cv : Int, atI [D.int 0, D.int (r7 : Int), D.int top, D.int (r8 : Int)] (r9 : Int) = some (.int cv) ∧ 0 ≤ cv ∧ cv ≤ top := by
        have : r9 = 0 ∨ r9 = 1 ∨ r9 = 2 ∨ r9 = 3 := by omega
        rcases this with rfl | rfl | rfl | rfl
        · exact ⟨0, rfl, by omega, by omega⟩
        · exact ⟨r7, rfl, by omega, by split at hr7 <;> omega⟩
        · exact ⟨top, rfl, by omega, by omega⟩
        · exact ⟨r8, rfl, by omega, by omega⟩
      obtain ⟨cv, ecell, hc1, hc2⟩ := ecell
      walk_at "o"
      simp only [ecell]
      refine ⟨_, _, gup_same, ho9, by omega, by decide, by decide, fun ra oa hra hoa => ?_⟩
      rw [gup_gup]
      walk_at "o"
      refine ⟨_, _, gup_same, hoa, by omega, by decide, by decide, fun rb ob hrb hob => ?_⟩
      rw [gup_gup]
      walk_at "o"
      refine ⟨by decide, ret_same (h (1 + r1) names hv (1 + ra) (1 + rb) cv ob ⟨by omega, by omega, by omega, by omega, hnm, hh1, hh2, by omega, by omega, by omega, by omega, hc1, by rw [etop]; exact hc2⟩ (hob.mono (by omega)))⟩
    · exact h.elim
def sp_is_name : DSp := fun ds G R => match ds with | [x] => plD x = true ∧ R (.bl (isName x)) G | _ => False
theorem ok_is_name {P : Program} {w : World} {K : PySem.W.Frag} {mg : Str → Option Value} {base : Heap} {a : Ad} (T : Tx w K mg a) : FnD P w K mg base 1 a.f_is_name a.fd_is_name ["thing"] sp_is_name := by
  refine fun_okD T.F_is_name sc_is_name (fun ds G R h => ?_) (fun cdv A outer s H hr => ⟨_, (qss_cons (qs_if (QW.pt (qw_or (qt_not (qt_val (qe_callB cd_isi rfl T.n_isinstance (by decide +kernel) (qa_cons (qv 0) (qa_cons (qe_ty (n := "str") rfl T.n_str (by decide +kernel)) qa_nil))))) (qw_or1 (qt_not (qt_chain od_le od_le qe_int (qe_callB cd_len rfl T.n_len (by decide +kernel) (qa_cons (qv 0) qa_nil)) (qe_globI rfl T.c_MOST_SIGNS))))))
      (qss_one (qs_ret qe_bl))
      qss_nil)
      (qss_one (qs_ret (qe_callB (cd_all rfl) rfl T.n_all (by decide +kernel) (qa_cons (qe_lc false rfl sc_is_name.nd (qi_seq (qv 0)) (blkOk_by (own := [("sign", 1)]) (N := N_is_name) (sc := defScope s_is_name) (by decide +kernel)) (fun _ _ _ _ _ => (pg_name (i := 1) sc_is_name.nd rfl (.inl rfl))) (tg_name (i := 1) (by decide)) (fun _ _ _ _ _ => qts_nil) (fun _ _ _ _ _ => (qe_cmp od_in (qv 1) (qe_globS rfl T.c_LETTERS) rfl))) qa_nil))))), fun ds G R h => ?_⟩)
  · unfold sp_is_name at h; split at h; rfl; exact h.elim
  · unfold sp_is_name at h
    split at h
    · rename_i x
      obtain ⟨hx, h⟩ := h
      walk_at "d"
      rw [isi_str hx]
      cases x with
      | str z =>
        obtain ⟨hz, hzc⟩ := pl_str.mp hx
        simp only [isStr, Bool.not_true, len_str hz, dLe, dOrd]
        unfold isName nameOk at h
        simp only at h
        by_cases e1 : 1 ≤ z.length
        · have e1' : decide ((1 : Int) ≤ (z.length : Int)) = true := decide_eq_true (by omega)
          by_cases e2 : z.length ≤ 8
          · have e2' : decide ((z.length : Int) ≤ 8) = true := decide_eq_true (by omega)
            rw [decide_eq_true e1, decide_eq_true e2] at h
            simp only [e1', e2', Bool.not_true]
            refine ⟨by unfold signsD; rw [List.length_map, Array.length_toList]; exact small_line hz, ?_⟩
            refine all_pure (fun d => match d with | .str y => y.cps.toList.all low | _ => false) True.intro _ (fun x hx Q q => ?_) (ret_same ?_)
            · unfold signsD at hx
              obtain ⟨c, hc, rfl⟩ := List.mem_map.mp hx
              show Q (.bl (decide (c ∈ letters.cps.toList))) G
              rw [in_letters]
              simpa using q
            · unfold signsD
              rw [List.all_map]
              have e : ((fun d => match d with | D.str y => y.cps.toList.all low | _ => false) ∘ fun c => D.str ⟨#[c]⟩) = low := by
                funext c
                show [c].all low = low c
                simp
              rw [e]
              simpa using h
          · have e2' : decide ((z.length : Int) ≤ 8) = false := decide_eq_false (by omega)
            rw [decide_eq_false e2] at h
            simp only [e1', e2', Bool.not_false]
            exact ret_same (by simpa using h)
        · have e1' : decide ((1 : Int) ≤ (z.length : Int)) = false := decide_eq_false (by omega)
          rw [decide_eq_false e1] at h
          simp only [e1', Bool.not_false]
          exact ret_same (by simpa using h)
      | _ => simp only [isStr, Bool.not_false]; exact ret_same h
    · exact h.elim
/-! ### machines -/
def namesOf : List D → List Str
  | .str z :: r => z :: namesOf r
  | _ :: r => namesOf r
  | [] => []
def cellsOk : D → D → Bool
  | .int i, c => isWithin c 0 (2 ^ i.toNat)
  | _, _ => false
def isMach : D → Bool
  | .tup [b, .tup rs, h, al, mo, c] => isWithin b 1 8 && decide (1 ≤ rs.length) && decide (rs.length ≤ 6) && rs.all isName && decide (namesOf rs).Nodup && isWithin h 0 12 && isWithin al 1 3 && isWithin mo 1 3 && cellsOk b c
  | _ => false
theorem names_keys : ∀ {rs : List D}, rs.all isName = true → keysD rs = some ((namesOf rs).map Sum.inr) ∧ (namesOf rs).length = rs.length
  | [], _ => ⟨rfl, rfl⟩
  | .str z :: r, h => by
    simp only [List.all_cons, Bool.and_eq_true] at h
    obtain ⟨h1, h2⟩ := names_keys h.2
    constructor
    · simp only [keysD, keyD, h1, namesOf, List.map_cons]
    · simp only [namesOf, List.length_cons, h2]
  | .non :: r, h => by simp [isName] at h
  | .bl _ :: r, h => by simp [isName] at h
  | .int _ :: r, h => by simp [isName] at h
  | .ty _ :: r, h => by simp [isName] at h
  | .ref _ :: r, h => by simp [isName] at h
  | .any _ :: r, h => by simp [isName] at h
  | .tup _ :: r, h => by simp [isName] at h
  | .lst _ :: r, h => by simp [isName] at h
  | .nt _ :: r, h => by simp [isName] at h
theorem names_uniq {rs : List D} (h : rs.all isName = true) : decide (((uniq ((namesOf rs).map (Sum.inr : Str → Key))).length : Int) < (rs.length : Int)) = !decide (namesOf rs).Nodup := by
  obtain ⟨_, h2⟩ := names_keys h
  have e1 := uniq_le ((namesOf rs).map (Sum.inr : Str → Key))
  have e2 := uniq_eq ((namesOf rs).map (Sum.inr : Str → Key))
  rw [List.length_map] at e1 e2
  have e3 : ((namesOf rs).map (Sum.inr : Str → Key)).Nodup ↔ (namesOf rs).Nodup := by
    constructor
    · intro z
      exact (List.pairwise_map.mp z).imp fun h e => h (congrArg Sum.inr e)
    · intro z
      exact List.pairwise_map.mpr (z.imp fun h e => h (Sum.inr.inj e))
  rw [e3] at e2
  by_cases hn : (namesOf rs).Nodup
  · rw [decide_eq_true hn, decide_eq_false (by have := e2.mpr hn; omega)] <;> rfl
  · rw [decide_eq_false hn, decide_eq_true (by have : ¬ _ := fun z => hn (e2.mp z); omega)] <;> rfl
theorem six {α : Type} {ds : List α} (h : ds.length = 6) : ∃ a b c d e f, ds = [a, b, c, d, e, f] := by
  match ds, h with
  | [a, b, c, d, e, f], _ => exact ⟨a, b, c, d, e, f, rfl⟩
def sp_is_machine : DSp := fun ds G R => match ds with | [x] => plD x = true ∧ R (.bl (isMach x)) G | _ => False
theorem ok_is_machine {P : Program} {w : World} {K : PySem.W.Frag} {mg : Str → Option Value} {base : Heap} {a : Ad} (T : Tx w K mg a) : FnD P w K mg base 3 a.f_is_machine a.fd_is_machine ["thing"] sp_is_machine := by
  refine fun_okD T.F_is_machine sc_is_machine (fun ds G R h => ?_) (fun cdv A outer s H hr => ⟨_, (qss_cons (qs_if (QW.pt (qw_or (qt_not (qt_val (qe_callB cd_isi rfl T.n_isinstance (by decide +kernel) (qa_cons (qv 0) (qa_cons (qe_ty (n := "tuple") rfl T.n_tuple (by decide +kernel)) qa_nil))))) (qw_or1 (qt_cmp (od_ne hr.units) (qe_callB cd_len rfl T.n_len (by decide +kernel) (qa_cons (qv 0) qa_nil)) qe_int (nomark _)))))
      (qss_one (qs_ret qe_bl))
      qss_nil)
      (qss_cons (qs_asg (qv 0) (qg_of (pg_tup rfl (pgs_cons (pg_name (i := 1) sc_is_machine.nd rfl (.inl rfl)) (pgs_cons (pg_name (i := 2) sc_is_machine.nd rfl (.inl rfl)) (pgs_cons (pg_name (i := 3) sc_is_machine.nd rfl (.inl rfl)) (pgs_cons (pg_name (i := 4) sc_is_machine.nd rfl (.inl rfl)) (pgs_cons (pg_name (i := 5) sc_is_machine.nd rfl (.inl rfl)) (pgs_cons (pg_name (i := 6) sc_is_machine.nd rfl (.inl rfl)) pgs_nil))))))) (tg_names (is := [1, 2, 3, 4, 5, 6]) (ws := [1, 2, 3, 4, 5, 6]) (by decide) rfl)))
      (qss_cons (qs_if (QW.pt (qw_or (qt_not (qt_val (qe_call (ok_is_within T) (hr.mono (by omega)) rfl T.g_is_within T.F_is_within.kp T.b_is_within (qa_cons (qv 1) (qa_cons qe_int (qa_cons (qe_globI rfl T.c_MOST_BITS) qa_nil)))))) (qw_or1 (qt_not (qt_val (qe_callB cd_isi rfl T.n_isinstance (by decide +kernel) (qa_cons (qv 2) (qa_cons (qe_ty (n := "tuple") rfl T.n_tuple (by decide +kernel)) qa_nil))))))))
      (qss_one (qs_ret qe_bl))
      qss_nil)
      (qss_cons (qs_if (QW.pt (qw_or (qt_not (qt_chain od_le od_le qe_int (qe_callB cd_len rfl T.n_len (by decide +kernel) (qa_cons (qv 2) qa_nil)) (qe_globI rfl T.c_MOST_REGISTERS))) (qw_or1 (qt_not (qt_val (qe_callB (cd_all rfl) rfl T.n_all (by decide +kernel) (qa_cons (qe_lc false rfl sc_is_machine.nd (qi_seq (qv 2)) (blkOk_by (own := [("name", 7)]) (N := N_is_machine) (sc := defScope s_is_machine) (by decide +kernel)) (fun _ _ _ _ _ => (pg_name (i := 7) sc_is_machine.nd rfl (.inl rfl))) (tg_name (i := 7) (by decide)) (fun _ _ _ _ _ => qts_nil) (fun _ _ _ _ _ => (qe_call (ok_is_name T) (hr.mono (by omega)) rfl T.g_is_name T.F_is_name.kp T.b_is_name (qa_cons (qv 7) qa_nil)))) qa_nil)))))))
      (qss_one (qs_ret qe_bl))
      qss_nil)
      (qss_cons (qs_if (QW.pt (qw_or (qt_cmp od_lt (qe_lenSet rfl rfl T.n_len rfl T.n_set (qv 2)) (qe_callB cd_len rfl T.n_len (by decide +kernel) (qa_cons (qv 2) qa_nil)) (nomark _)) (qw_or1 (qt_not (qt_val (qe_call (ok_is_within T) (hr.mono (by omega)) rfl T.g_is_within T.F_is_within.kp T.b_is_within (qa_cons (qv 3) (qa_cons qe_int (qa_cons (qe_globI rfl T.c_MOST_HIDDEN) qa_nil)))))))))
      (qss_one (qs_ret qe_bl))
      qss_nil)
      (qss_cons (qs_if (QW.pt (qw_or (qt_not (qt_val (qe_call (ok_is_within T) (hr.mono (by omega)) rfl T.g_is_within T.F_is_within.kp T.b_is_within (qa_cons (qv 4) (qa_cons qe_int (qa_cons (qe_globI rfl T.c_MOST_UNITS) qa_nil)))))) (qw_or1 (qt_not (qt_val (qe_call (ok_is_within T) (hr.mono (by omega)) rfl T.g_is_within T.F_is_within.kp T.b_is_within (qa_cons (qv 5) (qa_cons qe_int (qa_cons (qe_globI rfl T.c_MOST_UNITS) qa_nil)))))))))
      (qss_one (qs_ret qe_bl))
      qss_nil)
      (qss_one (qs_ret (qe_call (ok_is_within T) (hr.mono (by omega)) rfl T.g_is_within T.F_is_within.kp T.b_is_within (qa_cons (qv 6) (qa_cons qe_int (qa_cons (qe_op od_shl qe_int (qv 1)) qa_nil)))))))))))), fun ds G R h => ?_⟩)
  · unfold sp_is_machine at h; split at h; rfl; exact h.elim
  · unfold sp_is_machine at h
    split at h
    · rename_i x
      obtain ⟨hx, h⟩ := h
      walk_at "d"
      rw [isi_tup hx]
      cases x with
      | tup ds =>
        simp only [isTup, Bool.not_true, len_tup, dNe, dEqW]
        by_cases hl : ds.length = 6
        · obtain ⟨b, r, hh, al, mo, c, rfl⟩ := six hl
          obtain ⟨_, hp⟩ := pl_tup.mp hx
          have pb := hp b (by simp)
          have pr := hp r (by simp)
          have ph := hp hh (by simp)
          have pal := hp al (by simp)
          have pmo := hp mo (by simp)
          have pc := hp c (by simp)
          walk_at "d"
          have e6 : (!decide (((6 : Nat) : Int) = 6)) = false := by decide
          simp only [e6, true_and, sp_is_within, pb, ph, pal, pmo, pc]
          cases eb : isWithin b 1 8 with
          | false =>
            simp only [Bool.not_false]
            exact ret_same (by cases r <;> simpa [isMach, eb] using h)
          | true =>
            simp only [Bool.not_true, isi_tup pr]
            cases r with
            | tup rs =>
              obtain ⟨hrl, hrp⟩ := pl_tup.mp pr
              simp only [isTup, Bool.not_true, len_tup, dLe, dOrd]
              have hm : isMach (.tup [b, .tup rs, hh, al, mo, c]) = (decide (1 ≤ rs.length) && decide (rs.length ≤ 6) && rs.all isName && decide (namesOf rs).Nodup && isWithin hh 0 12 && isWithin al 1 3 && isWithin mo 1 3 && cellsOk b c) := by
                simp only [isMach, eb, Bool.true_and]
              rw [hm] at h
              by_cases h1 : 1 ≤ rs.length
              · have e1 : decide ((1 : Int) ≤ (rs.length : Int)) = true := decide_eq_true (by omega)
                rw [decide_eq_true h1] at h
                simp only [e1]
                by_cases h2 : rs.length ≤ 6
                · have e2 : decide ((rs.length : Int) ≤ 6) = true := decide_eq_true (by omega)
                  rw [decide_eq_true h2] at h
                  simp only [e2, Bool.not_true]
                  refine ⟨small_line hrl, all_pure isName True.intro rs (fun x hx Q q => ?_) ?_⟩
                  · exact ⟨hrp x hx, q⟩
                  · cases e3 : rs.all isName with
                    | false =>
                      rw [e3] at h
                      exact ret_same (by simpa using h)
                    | true =>
                      rw [e3] at h
                      obtain ⟨k1, k2⟩ := names_keys e3
                      simp only [Bool.not_true, seqOf, Option.bind_some, k1, dLt, dOrd, names_uniq e3]
                      refine ⟨by rw [List.length_map, k2]; unfold scanBound; omega, ?_⟩
                      by_cases e4 : (namesOf rs).Nodup
                      · rw [decide_eq_true e4] at h ⊢
                        simp only [Bool.not_true]
                        cases e5 : isWithin hh 0 12 with
                        | false => rw [e5] at h; exact ret_same (by simpa using h)
                        | true =>
                          simp only [Bool.not_true]
                          cases e6 : isWithin al 1 3 with
                          | false => rw [e6] at h; exact ret_same (by simpa using h)
                          | true =>
                            simp only [Bool.not_true]
                            cases e7 : isWithin mo 1 3 with
                            | false => rw [e7] at h; exact ret_same (by simpa using h)
                            | true =>
                              simp only [Bool.not_true]
                              rw [e5, e6, e7] at h
                              cases b with
                              | int i =>
                                simp only [isWithin, Bool.and_eq_true, decide_eq_true_eq] at eb
                                refine ⟨shl_ok (by omega) (by omega), ?_⟩
                                simp only [Int.one_mul]
                                exact ⟨pc, ret_same (by simpa [cellsOk] using h)⟩
                              | _ => cases eb
                      · rw [decide_eq_false e4] at h ⊢
                        exact ret_same (by simpa using h)
                · have e2 : decide ((rs.length : Int) ≤ 6) = false := decide_eq_false (by omega)
                  rw [decide_eq_false h2] at h
                  simp only [e2, Bool.not_false]
                  exact ret_same (by simpa using h)
              · have e1 : decide ((1 : Int) ≤ (rs.length : Int)) = false := decide_eq_false (by omega)
                rw [decide_eq_false h1] at h
                simp only [e1, Bool.not_false]
                exact ret_same (by simpa using h)
            | _ => simp only [isTup, Bool.not_false]; exact ret_same (by simpa [isMach] using h)
        · have e6 : (!decide (((ds.length : Nat) : Int) = 6)) = true := by simp; omega
          simp only [e6]
          refine ret_same ?_
          have : isMach (.tup ds) = false := by
            unfold isMach
            split
            · rename_i heq; cases heq; exact absurd rfl hl
            · rfl
          rw [this] at h
          exact h
      | _ => simp only [isTup, Bool.not_false]; exact ret_same h
    · exact h.elim
end K15


set_option Elab.async false
set_option linter.all false
set_option maxRecDepth 100000
set_option maxHeartbeats 4000000
set_option autoImplicit false
namespace K15
open PySem PySem.Spec PyProof.Rows L2 DL
local macro_rules | `(tactic| walk_at "d") => `(tactic| dsimp only [dSeq, dNext, dIfS, dRet, dRetN, dAsg, dName, dVar, dC, dOp, dUn, dChain, dB, dAnd, dOr, dNot, dAndV, dOrV, dNotV, dIf, dNil, dCons, dTup, dLst, newL, dCallB, dCall, dCallK, dDrop, dAug, dAugS, dSub, dM, dM0, dSlice, dNoPart, dPart, dLc, dYes, dFor, dIter, dRng1, dEnum, dZipM, srcD, dStar, dInK, dIxK, dLenSet, dRev,
  startD, wipeD, setAll, dNames, List.map_cons, List.map_nil, List.length_cons, List.length_nil, List.replicate, List.cons_append, List.nil_append, List.append_nil, List.getElem?_cons_zero, List.getElem?_cons_succ, List.set_cons_zero, List.set_cons_succ, List.map, Nat.zero_add, Nat.reduceAdd, Nat.reduceSub, Nat.sub_self, Nat.succ_sub_succ_eq_sub])
local macro_rules | `(tactic| walk_at "o") => `(tactic| simp only [dAdd_ii, dAdd_ss, dAdd_tt, dAdd_ll, dMinus_ii, dMul_ii, dMod_ii, dFdiv_ii, dPow_ii, dShl_ii, dNeg_i, dIadd_ii, dLt_ii, dLe_ii, dGt_ii, dGe_ii, dEq_ii, dNe_ii, dEq_ss, dNe_ss, dEq_bb, dNe_bb, dIs_n, dIsNot_n, dMax2_ii, dMin2_ii, dTuple_t, dTuple_l, dList_t, dList_l, dIx_t, dIx_l, dIx_s, dSl_t, dSl_l, dSl_s, newL_f, len_tup, len_lst])
local macro_rules | `(tactic| walk_at "w") => `(tactic| dsimp only [x_var, x_c, x_op, x_un, x_b, x_and, x_or, x_not, x_chain, x_andV, x_orV, x_notV, x_if, x_nil, x_cons, x_tup, x_lst0, x_lst1, x_callB, x_call, x_callK, x_next, x_seq, x_break, x_cont, x_drop, x_ret, x_ifS, x_asg, x_name, x_names, x_sub, x_aug, x_augS, x_for, x_lc0, x_lc1, x_yes, x_noPart, x_part, x_slice, x_iter, it_t, it_l, it_n, it_s, it_r, x_rng1, x_enum, x_rev, x_m, x_m0, x_mX, x_zip, x_star_t, x_star_l, x_lenSet, x_forgo0, x_lcgo0, x_while, x_par, x_sortK,
  br_t, br_f, isB_bl, isI_int, isN_some, slo_some, atL_lst, ix_t, ix_l, ix_n,
  dAdd_ii, dAdd_ss, dAdd_tt, dAdd_ll, dMinus_ii, dMul_ii, dMod_ii, dFdiv_ii, dPow_ii, dShl_ii, dNeg_i, dIadd_ii, dLt_ii, dLe_ii, dGt_ii, dGe_ii, ltE_ii, ltE_ss, srcD, isi_i, isi_s, isi_b, isi_n, isi_t, isi_nt, isi_l, isi2_i, isi2_s, isi2_b, isi2_n, isi2_t, isi2_nt, isi2_l, inon_n, inon_i, inon_s, inon_b, inon_t, inon_l, inon_r, dEq_ii, dNe_ii, dEq_ss, dNe_ss, dEq_bb, dNe_bb, dIs_n, dIsNot_n, dMax2_ii, dMin2_ii, dTuple_t, dTuple_l, dList_t, dList_l, dSl_t, dSl_l, dSl_s, newL_f, newL_t, app_r, int_b, int_i, strI_i, strX_i, strX_s,
  startD, wipeD, setAll, permL, List.filterMap, List.map_cons, List.map_nil, List.length_cons, List.length_nil, List.replicate, List.cons_append, List.nil_append, List.append_nil, List.getElem?_cons_zero, List.getElem?_cons_succ, List.set_cons_zero, List.set_cons_succ, List.map, Nat.zero_add, Nat.reduceAdd, Nat.reduceSub, Nat.sub_self, Nat.succ_sub_succ_eq_sub])
local macro_rules | `(tactic| walk_at "v") => `(tactic| simp only [ofString_inj, String.reduceEq, at_0, at_1, at_2, at_3, at_4, at_5, isN_some, isBB_bl, isB_bl, br_t, br_f, br_not, br_and, br_or, br_dec, ix_r, len_tup, len_lst, len_nt, ltE_key, gup_gup, gup_same, starD_one, cut1, cut2, kt1, kt2, kt3, kt4, kt5, kt6, isTy, String.reduceBEq, Bool.or_false, Bool.false_or, Bool.true_or, Bool.or_true, Bool.and_false, Bool.false_and, Bool.true_and, Bool.and_true, Bool.not_true, Bool.not_false, decide_true, decide_false, eq_self_iff_true, Bool.false_eq_true, Int.reduceAdd, Int.add_zero, if_true, if_false, true_and, and_true])
local macro_rules | `(tactic| walk_at "side") => `(tactic| first | with_reducible assumption | omega | exact mty_up | exact True.intro | (simp only [List.mem_cons, ofString_inj, String.reduceEq, true_or, or_true, List.length_map]; done) | with_reducible exact (rfl : (_ : Nat) = _) | exact (rfl : (_ : Option String) = _) | (refine small_line ?_; omega) | (walk_at "ll"; first | omega | (refine small_line ?_; omega) | fail) | (exact log_small (by omega)) | fail)
local macro_rules | `(tactic| walk_at "x") => `(tactic| fail)
local macro_rules | `(tactic| walk_at "go") => `(tactic| repeat' (first | dsimp only [x_var, x_c, x_op, x_un, x_b, x_and, x_or, x_not, x_chain, x_andV, x_orV, x_notV, x_if, x_nil, x_cons, x_tup, x_lst0, x_lst1, x_callB, x_call, x_callK, x_next, x_seq, x_break, x_cont, x_drop, x_ret, x_ifS, x_asg, x_name, x_names, x_sub, x_aug, x_augS, x_for, x_lc0, x_lc1, x_yes, x_noPart, x_part, x_slice, x_iter, it_t, it_l, it_n, it_s, it_r, x_rng1, x_enum, x_rev, x_m, x_m0, x_mX, x_zip, x_star_t, x_star_l, x_lenSet, x_forgo0, x_lcgo0, x_while, x_par, x_sortK, br_t, br_f, isB_bl, isI_int, isN_some, slo_some, atL_lst, ix_t, ix_l, ix_n, dAdd_ii, dAdd_ss, dAdd_tt, dAdd_ll, dMinus_ii, dMul_ii, dMod_ii, dFdiv_ii, dPow_ii, dShl_ii, dNeg_i, dIadd_ii, dLt_ii, dLe_ii, dGt_ii, dGe_ii, ltE_ii, ltE_ss, srcD, isi_i, isi_s, isi_b, isi_n, isi_t, isi_nt, isi_l, isi2_i, isi2_s, isi2_b, isi2_n, isi2_t, isi2_nt, isi2_l, inon_n, inon_i, inon_s, inon_b, inon_t, inon_l, inon_r, dEq_ii, dNe_ii, dEq_ss, dNe_ss, dEq_bb, dNe_bb, dIs_n, dIsNot_n, dMax2_ii, dMin2_ii, dTuple_t, dTuple_l, dList_t, dList_l, dSl_t, dSl_l, dSl_s, newL_f, newL_t, app_r, int_b, int_i, strI_i, strX_i, strX_s, startD, wipeD, setAll, permL, List.filterMap, List.map_cons, List.map_nil, List.length_cons, List.length_nil, List.replicate, List.cons_append, List.nil_append, List.append_nil, List.getElem?_cons_zero, List.getElem?_cons_succ, List.set_cons_zero, List.set_cons_succ, List.map, Nat.zero_add, Nat.reduceAdd, Nat.reduceSub, Nat.sub_self, Nat.succ_sub_succ_eq_sub] | simp only [ofString_inj, String.reduceEq, at_0, at_1, at_2, at_3, at_4, at_5, isN_some, isBB_bl, isB_bl, br_t, br_f, br_not, br_and, br_or, br_dec, ix_r, len_tup, len_lst, len_nt, ltE_key, gup_gup, gup_same, starD_one, cut1, cut2, kt1, kt2, kt3, kt4, kt5, kt6, isTy, String.reduceBEq, Bool.or_false, Bool.false_or, Bool.true_or, Bool.or_true, Bool.and_false, Bool.false_and, Bool.true_and, Bool.and_true, Bool.not_true, Bool.not_false, decide_true, decide_false, eq_self_iff_true, Bool.false_eq_true, Int.reduceAdd, Int.add_zero, if_true, if_false, true_and, and_true] | walk_at "x" | with_reducible refine kont_go ?_ | with_reducible refine rt_sub (by assumption) ?_ | with_reducible refine rt_lst (by assumption) ?_ | with_reducible refine rt_drop (by assumption) ?_ | with_reducible refine rt_keep (by assumption) (by assumption) ?_ | with_reducible refine rt_same ?_ | (refine fun (p : Addr) (_ : _ = none) => ?_) | refine join_gor gup_same rfl (by walk_at "side") ?_ | with_reducible refine lc_cons ?_ | with_reducible refine for_cons ?_ | refine join_go rfl (by walk_at "side") ?_ | refine And.intro (by first | with_reducible assumption | omega | exact mty_up | exact True.intro | (simp only [List.mem_cons, ofString_inj, String.reduceEq, true_or, or_true, List.length_map]; done) | with_reducible exact (rfl : (_ : Nat) = _) | exact (rfl : (_ : Option String) = _) | (refine small_line ?_; omega) | (walk_at "ll"; first | omega | (refine small_line ?_; omega) | fail) | (exact log_small (by omega)) | fail) ?_ | fail))
local macro_rules | `(tactic| walk_at "ll") => `(tactic| simp only [List.length_map, List.length_append, List.length_cons, List.length_nil, List.map_cons, List.map_nil, List.sum_cons, List.sum_nil, len_app, rng_length, ll_0, ll_1, ll_2, ll_3, ll_4, ll_5, ll_6, ll_7, ll_8, ll_9, ll_10, ll_11, ll_12, ll_13, ll_14, ll_15, ll_16, ll_17, ll_18, ll_19, ll_20, ll_21, ll_22, ll_23, ll_24, ll_25, ll_26, ll_27, ll_28, ll_29, ll_30, ll_31, ll_32, ll_33, ll_34, ll_35, ll_36, ll_37, ll_38, ll_39, ll_40, ll_41, ll_42, ll_43, ll_44, ll_45, ll_46, ll_47, ll_48, ll_49, ll_50, ll_51, ll_52, ll_53, ll_54])
mutual
/-- data of no great lengths -/
def wid : D → Bool
  | .tup ds => decide (ds.length ≤ 1000) && wids ds
  | .lst ds => decide (ds.length ≤ 1000) && wids ds
  | _ => true
def wids : List D → Bool
  | [] => true
  | d :: ds => wid d && wids ds
end
theorem wids_mem : ∀ {ds : List D} {d : D}, wids ds = true → d ∈ ds → wid d = true
  | [], _, _, h => by cases h
  | x :: ds, d, h, hd => by
    simp only [wids, Bool.and_eq_true] at h
    rcases List.mem_cons.mp hd with rfl | hd
    · exact h.1
    · exact wids_mem h.2 hd
theorem pyDs_mem : ∀ {ds : List D} {d : D}, pyDs ds = true → d ∈ ds → pyD d = true
  | [], _, _, h => by cases h
  | x :: ds, d, h, hd => by
    simp only [pyDs, Bool.and_eq_true] at h
    rcases List.mem_cons.mp hd with rfl | hd
    · exact h.1
    · exact pyDs_mem h.2 hd
theorem depDs_mem' : ∀ {ds : List D} {d : D}, d ∈ ds → depD d ≤ depDs ds
  | [], _, h => by cases h
  | x :: ds, d, hd => by
    simp only [depDs]
    rcases List.mem_cons.mp hd with rfl | hd
    · omega
    · have := depDs_mem' hd; omega
mutual
theorem eqD_self : ∀ {d : D}, pyD d = true → eqD d d = true
  | .non, _ => rfl
  | .bl b, _ => by simp [eqD]
  | .int i, _ => by simp [eqD]
  | .str z, _ => by simp [eqD]
  | .tup ds, h => by simp only [eqD]; exact eqDs_self (by simpa only [pyD] using h)
  | .lst ds, h => by simp only [eqD]; exact eqDs_self (by simpa only [pyD] using h)
  | .nt _, h => by simp [pyD] at h
  | .ty _, h => by simp [pyD] at h
  | .ref _, h => by simp [pyD] at h
  | .any _, h => by simp [pyD] at h
theorem eqDs_self : ∀ {ds : List D}, pyDs ds = true → eqDs ds ds = true
  | [], _ => rfl
  | d :: ds, h => by
    simp only [pyDs, Bool.and_eq_true] at h
    simp only [eqDs, eqD_self h.1, eqDs_self h.2, Bool.and_self]
end
theorem zip_self_mem : ∀ {ds : List D} {y : D}, y ∈ zipD ds ds → ∃ d ∈ ds, y = .tup [d, d]
  | [], y, h => by cases h
  | d :: ds, y, h => by
    simp only [zipD] at h
    rcases List.mem_cons.mp h with rfl | h
    · exact ⟨d, by simp, rfl⟩
    · obtain ⟨e, he, rfl⟩ := zip_self_mem h
      exact ⟨e, List.mem_cons_of_mem _ he, rfl⟩
def sp__law_same (n : Nat) : DSp := fun ds G R => ∃ x, ds = [x, x] ∧ pyD x = true ∧ wid x = true ∧ depD x ≤ n ∧ R (.bl true) G
theorem ok0__law_same {P : Program} {w : World} {K : PySem.W.Frag} {mg : Str → Option Value} {base : Heap} {a : Ad} (T : Tx w K mg a) {n j : Nat} {sp' : DSp} (ih : FnD P w K mg base j a.f__law_same a.fd__law_same ["found", "due"] sp') (hj : j ≤ n) (hs : ∀ m, n = m + 1 → ∀ ds G R, sp__law_same m ds G R → sp' ds G R) : FnD P w K mg base (n + 1) a.f__law_same a.fd__law_same ["found", "due"] (sp__law_same n) := by
  refine fun_okD T.F__law_same sc__law_same (fun ds G R h => ?_) (fun cdv A outer s H hr => ⟨_, (qss_cons (qs_if (qt_val (qe_callB cd_isiX rfl T.n_isinstance (by decide +kernel) (qa_cons (qv 1) (qa_cons (qe_tup (qa_cons (qe_ty (n := "list") rfl T.n_list (by decide +kernel)) (qa_cons (qe_ty (n := "tuple") rfl T.n_tuple (by decide +kernel)) qa_nil))) qa_nil))))
      (qss_cons (qs_if (QW.pt (qw_or (qt_cmp (od_ne hr.units) (qe_callB cd_isiX rfl T.n_isinstance (by decide +kernel) (qa_cons (qv 0) (qa_cons (qe_ty (n := "list") rfl T.n_list (by decide +kernel)) qa_nil))) (qe_callB cd_isiX rfl T.n_isinstance (by decide +kernel) (qa_cons (qv 1) (qa_cons (qe_ty (n := "list") rfl T.n_list (by decide +kernel)) qa_nil))) (nomark _)) (qw_or1 (qt_not (qt_val (qe_callB cd_isiX rfl T.n_isinstance (by decide +kernel) (qa_cons (qv 0) (qa_cons (qe_tup (qa_cons (qe_ty (n := "list") rfl T.n_list (by decide +kernel)) (qa_cons (qe_ty (n := "tuple") rfl T.n_tuple (by decide +kernel)) qa_nil))) qa_nil))))))))
      (qss_one (qs_ret qe_bl))
      qss_nil)
      (qss_one (qs_ret (qe_and (qe_cmp (od_eq hr.units) (qe_callB cd_len rfl T.n_len (by decide +kernel) (qa_cons (qv 0) qa_nil)) (qe_callB cd_len rfl T.n_len (by decide +kernel) (qa_cons (qv 1) qa_nil)) (nomark _)) (qe_one (qe_callB (cd_all rfl) rfl T.n_all (by decide +kernel) (qa_cons (qe_lc false rfl sc__law_same.nd (qi_zipM rfl T.n_zip (qa_cons (qv 0) (qa_cons (qv 1) qa_nil))) (blkOk_by (own := [("one", 2), ("other", 3)]) (N := N__law_same) (sc := defScope s__law_same) (by decide +kernel)) (fun _ _ _ _ _ => (pg_tup rfl (pgs_cons (pg_name (i := 2) sc__law_same.nd rfl (.inl rfl)) (pgs_cons (pg_name (i := 3) sc__law_same.nd rfl (.inl rfl)) pgs_nil)))) (tg_names (is := [2, 3]) (by decide) rfl) (fun _ _ _ _ _ => qts_nil) (fun _ _ _ _ _ => (qe_call ih (hr.mono (by omega)) rfl T.g__law_same T.F__law_same.kp T.b__law_same (qa_cons (qv 2) (qa_cons (qv 3) qa_nil))))) qa_nil)))))))
      qss_nil)
      (qss_one (qs_ret (qe_and (qe_cmp (od_eq hr.units) (qe_callB cd_isiX rfl T.n_isinstance (by decide +kernel) (qa_cons (qv 0) (qa_cons (qe_ty (n := "bool") rfl T.n_bool (by decide +kernel)) qa_nil))) (qe_callB cd_isiX rfl T.n_isinstance (by decide +kernel) (qa_cons (qv 1) (qa_cons (qe_ty (n := "bool") rfl T.n_bool (by decide +kernel)) qa_nil))) (nomark _)) (qe_one (qe_cmp (od_eq hr.units) (qv 0) (qv 1) (nomark _))))))), fun ds G R h => ?_⟩)
  · obtain ⟨x, rfl, _⟩ := h; rfl
  · obtain ⟨x, rfl, hp, hw, hd, h⟩ := h
    have leaf : ∀ y : D, pyD y = true → depD y ≤ 64 → ∀ Q : DK, Q (.bl true) G → dEq y y G Q := fun y hy hy2 Q q => by
      rw [eq_pure hy hy hy2 hy2, eqD_self hy]; exact q
    have many : ∀ (ds : List D) (x0 x1 : Option D) (Q : DK), pyDs ds = true → wids ds = true → depDs ds + 1 ≤ n → Q (.bl true) G →
        dLcGo (dNames [2, 3]) dYes (dCall sp' (dCons (dVar 2) (dCons (dVar 3) dNil))) (fun _ => True) [x0, x1, none, none] (zipD ds ds) [] G fun ds G2 => dAll [.lst ds] G2 Q := by
      intro ds x0 x1 Q hp hw hd q
      refine all_pure (fun _ => true) True.intro _ (fun y hy Q q => ?_) (by rw [List.all_eq_true.mpr fun _ _ => rfl]; exact q)
      obtain ⟨d, hd2, rfl⟩ := zip_self_mem hy
      walk_at "go"
      obtain ⟨m, rfl⟩ : ∃ m, n = m + 1 := ⟨n - 1, by omega⟩
      exact hs m rfl _ _ _ ⟨d, rfl, pyDs_mem hp hd2, wids_mem hw hd2, by have := depDs_mem' hd2; omega, q⟩
    cases x with
    | tup ds =>
      simp only [pyD] at hp
      simp only [wid, Bool.and_eq_true, decide_eq_true_eq] at hw
      simp only [depD] at hd
      walk_at "go"
      refine ⟨small_line (by rw [zipD_length]; omega), many ds _ _ _ hp hw.2 (by omega) ?_⟩
      walk_at "go"
      exact h
    | lst ds =>
      simp only [pyD] at hp
      simp only [wid, Bool.and_eq_true, decide_eq_true_eq] at hw
      simp only [depD] at hd
      walk_at "go"
      refine ⟨small_line (by rw [zipD_length]; omega), many ds _ _ _ hp hw.2 (by omega) ?_⟩
      walk_at "go"
      exact h
    | nt zs => simp [pyD] at hp
    | ty zs => simp [pyD] at hp
    | ref zs => simp [pyD] at hp
    | any zs => simp [pyD] at hp
    | _ =>
      walk_at "go"
      first
        | exact h
        | (refine leaf _ hp (by simp [depD]) _ ?_; walk_at "go"; exact h)
theorem ok__law_same_n {P : Program} {w : World} {K : PySem.W.Frag} {mg : Str → Option Value} {base : Heap} {a : Ad} (T : Tx w K mg a) : ∀ n : Nat, FnD P w K mg base (n + 1) a.f__law_same a.fd__law_same ["found", "due"] (sp__law_same n)
  | 0 => ok0__law_same T (j := 0) fnd_never (by omega) (fun m e => by omega)
  | n + 1 => ok0__law_same T (ok__law_same_n T n) (by omega) (fun m e ds G R h => by
    have : n = m := by omega
    subst this
    exact h)
theorem ok__law_same {P : Program} {w : World} {K : PySem.W.Frag} {mg : Str → Option Value} {base : Heap} {a : Ad} (T : Tx w K mg a) : FnD P w K mg base 5 a.f__law_same a.fd__law_same ["found", "due"] (sp__law_same 4) := ok__law_same_n T 4
theorem go_same {x : D} {G : Gp} {R : DK} (hp : pyD x = true) (hw : wid x = true) (hd : depD x ≤ 4) (k : R (.bl true) G) : sp__law_same 4 [x, x] G R := ⟨x, rfl, hp, hw, hd, k⟩
end K15


set_option Elab.async false
set_option linter.all false
set_option maxRecDepth 100000
set_option maxHeartbeats 4000000
set_option autoImplicit false
namespace K15
open PySem PySem.Spec PyProof.Rows L2 DL
local macro_rules | `(tactic| walk_at "d") => `(tactic| dsimp only [dSeq, dNext, dIfS, dRet, dRetN, dAsg, dName, dVar, dC, dOp, dUn, dChain, dB, dAnd, dOr, dNot, dAndV, dOrV, dNotV, dIf, dNil, dCons, dTup, dLst, newL, dCallB, dCall, dCallK, dDrop, dAug, dAugS, dSub, dM, dM0, dSlice, dNoPart, dPart, dLc, dYes, dFor, dIter, dRng1, dEnum, dZipM, srcD, dStar, dInK, dIxK, dLenSet, dRev,
  startD, wipeD, setAll, dNames, List.map_cons, List.map_nil, List.length_cons, List.length_nil, List.replicate, List.cons_append, List.nil_append, List.append_nil, List.getElem?_cons_zero, List.getElem?_cons_succ, List.set_cons_zero, List.set_cons_succ, List.map, Nat.zero_add, Nat.reduceAdd, Nat.reduceSub, Nat.sub_self, Nat.succ_sub_succ_eq_sub])
local macro_rules | `(tactic| walk_at "o") => `(tactic| simp only [dAdd_ii, dAdd_ss, dAdd_tt, dAdd_ll, dMinus_ii, dMul_ii, dMod_ii, dFdiv_ii, dPow_ii, dShl_ii, dNeg_i, dIadd_ii, dLt_ii, dLe_ii, dGt_ii, dGe_ii, dEq_ii, dNe_ii, dEq_ss, dNe_ss, dEq_bb, dNe_bb, dIs_n, dIsNot_n, dMax2_ii, dMin2_ii, dTuple_t, dTuple_l, dList_t, dList_l, dIx_t, dIx_l, dIx_s, dSl_t, dSl_l, dSl_s, newL_f, len_tup, len_lst])
local macro_rules | `(tactic| walk_at "w") => `(tactic| dsimp only [x_var, x_c, x_op, x_un, x_b, x_and, x_or, x_not, x_chain, x_andV, x_orV, x_notV, x_if, x_nil, x_cons, x_tup, x_lst0, x_lst1, x_callB, x_call, x_callK, x_next, x_seq, x_break, x_cont, x_drop, x_ret, x_ifS, x_asg, x_name, x_names, x_sub, x_aug, x_augS, x_for, x_lc0, x_lc1, x_yes, x_noPart, x_part, x_slice, x_iter, it_t, it_l, it_n, it_s, it_r, x_rng1, x_enum, x_rev, x_m, x_m0, x_mX, x_zip, x_star_t, x_star_l, x_lenSet, x_forgo0, x_lcgo0, x_while, x_par, x_sortK,
  br_t, br_f, isB_bl, isI_int, isN_some, slo_some, atL_lst, ix_t, ix_l, ix_n,
  dAdd_ii, dAdd_ss, dAdd_tt, dAdd_ll, dMinus_ii, dMul_ii, dMod_ii, dFdiv_ii, dPow_ii, dShl_ii, dNeg_i, dIadd_ii, dLt_ii, dLe_ii, dGt_ii, dGe_ii, ltE_ii, ltE_ss, srcD, isi_i, isi_s, isi_b, isi_n, isi_t, isi_nt, isi_l, isi2_i, isi2_s, isi2_b, isi2_n, isi2_t, isi2_nt, isi2_l, inon_n, inon_i, inon_s, inon_b, inon_t, inon_l, inon_r, dEq_ii, dNe_ii, dEq_ss, dNe_ss, dEq_bb, dNe_bb, dIs_n, dIsNot_n, dMax2_ii, dMin2_ii, dTuple_t, dTuple_l, dList_t, dList_l, dSl_t, dSl_l, dSl_s, newL_f, newL_t, app_r, int_b, int_i, strI_i, strX_i, strX_s,
  startD, wipeD, setAll, permL, List.filterMap, List.map_cons, List.map_nil, List.length_cons, List.length_nil, List.replicate, List.cons_append, List.nil_append, List.append_nil, List.getElem?_cons_zero, List.getElem?_cons_succ, List.set_cons_zero, List.set_cons_succ, List.map, Nat.zero_add, Nat.reduceAdd, Nat.reduceSub, Nat.sub_self, Nat.succ_sub_succ_eq_sub])
local macro_rules | `(tactic| walk_at "v") => `(tactic| simp only [ofString_inj, String.reduceEq, at_0, at_1, at_2, at_3, at_4, at_5, isN_some, isBB_bl, isB_bl, br_t, br_f, br_not, br_and, br_or, br_dec, ix_r, len_tup, len_lst, len_nt, ltE_key, gup_gup, gup_same, starD_one, cut1, cut2, kt1, kt2, kt3, kt4, kt5, kt6, isTy, String.reduceBEq, Bool.or_false, Bool.false_or, Bool.true_or, Bool.or_true, Bool.and_false, Bool.false_and, Bool.true_and, Bool.and_true, Bool.not_true, Bool.not_false, decide_true, decide_false, eq_self_iff_true, Bool.false_eq_true, Int.reduceAdd, Int.add_zero, if_true, if_false, true_and, and_true])
local macro_rules | `(tactic| walk_at "side") => `(tactic| first | with_reducible assumption | omega | exact mty_up | exact True.intro | (simp only [List.mem_cons, ofString_inj, String.reduceEq, true_or, or_true, List.length_map]; done) | with_reducible exact (rfl : (_ : Nat) = _) | exact (rfl : (_ : Option String) = _) | (refine small_line ?_; omega) | (walk_at "ll"; first | omega | (refine small_line ?_; omega) | fail) | (exact log_small (by omega)) | fail)
local macro_rules | `(tactic| walk_at "x") => `(tactic| fail)
local macro_rules | `(tactic| walk_at "go") => `(tactic| repeat' (first | dsimp only [x_var, x_c, x_op, x_un, x_b, x_and, x_or, x_not, x_chain, x_andV, x_orV, x_notV, x_if, x_nil, x_cons, x_tup, x_lst0, x_lst1, x_callB, x_call, x_callK, x_next, x_seq, x_break, x_cont, x_drop, x_ret, x_ifS, x_asg, x_name, x_names, x_sub, x_aug, x_augS, x_for, x_lc0, x_lc1, x_yes, x_noPart, x_part, x_slice, x_iter, it_t, it_l, it_n, it_s, it_r, x_rng1, x_enum, x_rev, x_m, x_m0, x_mX, x_zip, x_star_t, x_star_l, x_lenSet, x_forgo0, x_lcgo0, x_while, x_par, x_sortK, br_t, br_f, isB_bl, isI_int, isN_some, slo_some, atL_lst, ix_t, ix_l, ix_n, dAdd_ii, dAdd_ss, dAdd_tt, dAdd_ll, dMinus_ii, dMul_ii, dMod_ii, dFdiv_ii, dPow_ii, dShl_ii, dNeg_i, dIadd_ii, dLt_ii, dLe_ii, dGt_ii, dGe_ii, ltE_ii, ltE_ss, srcD, isi_i, isi_s, isi_b, isi_n, isi_t, isi_nt, isi_l, isi2_i, isi2_s, isi2_b, isi2_n, isi2_t, isi2_nt, isi2_l, inon_n, inon_i, inon_s, inon_b, inon_t, inon_l, inon_r, dEq_ii, dNe_ii, dEq_ss, dNe_ss, dEq_bb, dNe_bb, dIs_n, dIsNot_n, dMax2_ii, dMin2_ii, dTuple_t, dTuple_l, dList_t, dList_l, dSl_t, dSl_l, dSl_s, newL_f, newL_t, app_r, int_b, int_i, strI_i, strX_i, strX_s, startD, wipeD, setAll, permL, List.filterMap, List.map_cons, List.map_nil, List.length_cons, List.length_nil, List.replicate, List.cons_append, List.nil_append, List.append_nil, List.getElem?_cons_zero, List.getElem?_cons_succ, List.set_cons_zero, List.set_cons_succ, List.map, Nat.zero_add, Nat.reduceAdd, Nat.reduceSub, Nat.sub_self, Nat.succ_sub_succ_eq_sub] | simp only [ofString_inj, String.reduceEq, at_0, at_1, at_2, at_3, at_4, at_5, isN_some, isBB_bl, isB_bl, br_t, br_f, br_not, br_and, br_or, br_dec, ix_r, len_tup, len_lst, len_nt, ltE_key, gup_gup, gup_same, starD_one, cut1, cut2, kt1, kt2, kt3, kt4, kt5, kt6, isTy, String.reduceBEq, Bool.or_false, Bool.false_or, Bool.true_or, Bool.or_true, Bool.and_false, Bool.false_and, Bool.true_and, Bool.and_true, Bool.not_true, Bool.not_false, decide_true, decide_false, eq_self_iff_true, Bool.false_eq_true, Int.reduceAdd, Int.add_zero, if_true, if_false, true_and, and_true] | walk_at "x" | with_reducible refine kont_go ?_ | with_reducible refine rt_sub (by assumption) ?_ | with_reducible refine rt_lst (by assumption) ?_ | with_reducible refine rt_drop (by assumption) ?_ | with_reducible refine rt_keep (by assumption) (by assumption) ?_ | with_reducible refine rt_same ?_ | (refine fun (p : Addr) (_ : _ = none) => ?_) | refine join_gor gup_same rfl (by walk_at "side") ?_ | with_reducible refine lc_cons ?_ | with_reducible refine for_cons ?_ | refine join_go rfl (by walk_at "side") ?_ | refine And.intro (by first | with_reducible assumption | omega | exact mty_up | exact True.intro | (simp only [List.mem_cons, ofString_inj, String.reduceEq, true_or, or_true, List.length_map]; done) | with_reducible exact (rfl : (_ : Nat) = _) | exact (rfl : (_ : Option String) = _) | (refine small_line ?_; omega) | (walk_at "ll"; first | omega | (refine small_line ?_; omega) | fail) | (exact log_small (by omega)) | fail) ?_ | fail))
local macro_rules | `(tactic| walk_at "ll") => `(tactic| simp only [List.length_map, List.length_append, List.length_cons, List.length_nil, List.map_cons, List.map_nil, List.sum_cons, List.sum_nil, len_app, rng_length, ll_0, ll_1, ll_2, ll_3, ll_4, ll_5, ll_6, ll_7, ll_8, ll_9, ll_10, ll_11, ll_12, ll_13, ll_14, ll_15, ll_16, ll_17, ll_18, ll_19, ll_20, ll_21, ll_22, ll_23, ll_24, ll_25, ll_26, ll_27, ll_28, ll_29, ll_30, ll_31, ll_32, ll_33, ll_34, ll_35, ll_36, ll_37, ll_38, ll_39, ll_40, ll_41, ll_42, ll_43, ll_44, ll_45, ll_46, ll_47, ll_48, ll_49, ll_50, ll_51, ll_52, ll_53, ll_54])
/-! ### texts read -/
def dig (c : Nat) : Bool := decide (48 ≤ c) && decide (c ≤ 57)
theorem num_dig : ∀ k : Fin 301, (cds (Str.ofString (toString ((k.val : Nat) : Int)))).all dig = true ∧ 1 ≤ (Str.ofString (toString ((k.val : Nat) : Int))).length ∧ (Str.ofString (toString ((k.val : Nat) : Int))).length ≤ 9 := by decide +kernel
theorem fig_in {c : Nat} {G : Gp} {R : DK} (k : R (.bl (dig c)) G) : dInE id (.str ⟨#[c]⟩) (.str "0123456789") G R := by
  show dInW id (.str ⟨#[c]⟩) (.str "0123456789") G R
  show R (.bl (decide (c ∈ (Str.ofString "0123456789").cps.toList))) G
  have e : decide (c ∈ (Str.ofString "0123456789").cps.toList) = dig c := by
    have e2 : (Str.ofString "0123456789").cps.toList = [48, 49, 50, 51, 52, 53, 54, 55, 56, 57] := by decide +kernel
    rw [e2]
    unfold dig
    rw [Bool.eq_iff_iff]
    simp only [List.mem_cons, List.not_mem_nil, or_false, decide_eq_true_eq, Bool.and_eq_true]
    omega
  rw [e]
  exact k
/-- what number_in tells of a word -/
def numOkW (z : Str) : Bool := decide (1 ≤ z.length) && decide (z.length ≤ 9) && (cds z).all dig && (decide (atI (cds z) 0 ≠ some 48) || decide (z = "0"))
def numG (z : Str) : D := if numOkW z = true then .int ((NumText.digitsVal (cds z) : Nat) : Int) else .non
theorem int_digits {z : Str} (h : (cds z).all dig = true) (h1 : 1 ≤ z.length) (h2 : z.length ≤ 640) : PySem.intText? z = some ((NumText.digitsVal (cds z) : Nat) : Int) := by
  refine intText_digits (fun c hc => ?_) (fun e => ?_) (by omega)
  · have := List.all_eq_true.mp h c hc
    unfold dig at this
    simp only [Bool.and_eq_true, decide_eq_true_eq] at this
    exact this
  · have := cds_len z
    rw [show cds z = z.cps.toList from rfl, e] at this
    simp at this; omega
def sp_number_in : DSp := fun ds G R => ∃ (z : Str), ds = [.str z] ∧ z.length ≤ 1000 ∧ R (numG z) G
theorem ok_number_in {P : Program} {w : World} {K : PySem.W.Frag} {mg : Str → Option Value} {base : Heap} {a : Ad} (T : Tx w K mg a) : FnD P w K mg base 1 a.f_number_in a.fd_number_in ["word"] sp_number_in := by
  refine fun_okD T.F_number_in sc_number_in (fun ds G R h => ?_) (fun cdv A outer s H hr => ⟨_, (qss_cons (qs_if (QW.pt (qw_or (qt_not (qt_chain od_le od_le qe_int (qe_callB cd_len rfl T.n_len (by decide +kernel) (qa_cons (qv 0) qa_nil)) (qe_globI rfl T.c_MOST_FIGURES))) (qw_or1 (qt_not (qt_val (qe_callB (cd_all rfl) rfl T.n_all (by decide +kernel) (qa_cons (qe_lc false rfl sc_number_in.nd (qi_seq (qv 0)) (blkOk_by (own := [("sign", 1)]) (N := N_number_in) (sc := defScope s_number_in) (by decide +kernel)) (fun _ _ _ _ _ => (pg_name (i := 1) sc_number_in.nd rfl (.inl rfl))) (tg_name (i := 1) (by decide)) (fun _ _ _ _ _ => qts_nil) (fun _ _ _ _ _ => (qe_cmp (od_inE (room100 hr)) (qv 1) (qe_globS rfl T.c_FIGURES) rfl))) qa_nil)))))))
      (qss_one (qs_ret qe_non))
      qss_nil)
      (qss_cons (qs_if (QW.pt (qw_and (qt_cmp (od_eq hr.units) (qe_ix xd_ix (qv 0) qe_int (fun _ _ => rfl)) qe_str (nomark _)) (qw_and1 (qt_cmp (od_ne hr.units) (qv 0) qe_str (nomark _)))))
      (qss_one (qs_ret qe_non))
      qss_nil)
      (qss_one (qs_ret (qe_callTy cd_intS rfl T.n_int (by decide +kernel) (qa_cons (qv 0) qa_nil)))))), fun ds G R h => ?_⟩)
  · obtain ⟨z, rfl, _⟩ := h; rfl
  · obtain ⟨z, rfl, hl, h⟩ := h
    have hln : z.length = (cds z).length := (cds_len z).symm
    have hsg : signsD z = (cds z).map fun c => D.str ⟨#[c]⟩ := rfl
    unfold numG numOkW at h
    walk_at "go"
    by_cases h1 : 1 ≤ z.length
    · by_cases h9 : z.length ≤ 9
      · rw [if_pos (by omega), if_pos (by omega), hsg]
        refine ⟨small_line (by rw [List.length_map]; omega), ?_⟩
        refine all_typ (gd := fun _ => True) (fun c => D.str ⟨#[c]⟩) dig True.intro (cds z) (fun c _ Q q => ?_) ?_
        · walk_at "go"
          exact fig_in q
        cases ha : (cds z).all dig with
        | false =>
          rw [ha] at h
          simp only [Bool.and_false, Bool.false_and, if_neg Bool.false_ne_true] at h
          walk_at "go"
          exact h
        | true =>
          have ni := int_digits ha h1 (by omega)
          obtain ⟨c, cs, ec⟩ : ∃ c cs, cds z = c :: cs := by
            cases e : cds z with
            | nil => rw [e] at hln; simp at hln; omega
            | cons c cs => exact ⟨c, cs, rfl⟩
          have hat : atI z.cps.toList 0 = some c := by show atI (cds z) 0 = some c; rw [ec]; exact at_0
          have hat2 : atI (cds z) 0 = some c := hat
          rw [ha, hat2] at h
          walk_at "go"
          rw [hat]
          dsimp only
          have e48 : (⟨#[48]⟩ : Str) = "0" := by decide +kernel
          by_cases c0 : c = 48
          · have e1 : (⟨#[c]⟩ : Str) = Str.ofString "0" := by rw [c0]; exact e48
            rw [if_pos e1]
            by_cases hz : z = Str.ofString "0"
            · rw [if_pos hz]
              rw [decide_eq_true h1, decide_eq_true h9, decide_eq_true hz] at h
              simp only [Bool.or_true, Bool.and_self, if_pos] at h
              walk_at "go"
              refine intS_go ni (by omega) ?_
              exact rt_same h
            · rw [if_neg hz]
              rw [decide_eq_false hz, c0] at h
              simp only [Bool.or_false, ne_eq, not_true_eq_false, decide_false, Bool.and_false, if_neg Bool.false_ne_true] at h
              exact rt_same h
          · have e1 : ¬ (⟨#[c]⟩ : Str) = Str.ofString "0" := fun e => by
              have := congrArg cds (e.trans e48.symm)
              exact c0 (by simpa [cds] using this)
            rw [if_neg e1]
            rw [decide_eq_true h1, decide_eq_true h9, decide_eq_true (show some c ≠ some 48 from fun e => c0 (Option.some.inj e))] at h
            simp only [Bool.true_or, Bool.and_self, if_pos] at h
            walk_at "go"
            refine intS_go ni (by omega) ?_
            exact rt_same h
      · rw [decide_eq_false h9] at h
        simp only [Bool.and_false, Bool.false_and, if_neg Bool.false_ne_true] at h
        rw [if_pos (by omega), if_neg (by omega)]
        exact rt_same h
    · rw [decide_eq_false h1] at h
      simp only [Bool.and_false, Bool.false_and, if_neg Bool.false_ne_true] at h
      rw [if_neg (by omega)]
      exact rt_same h
theorem go_number {z : Str} {G : Gp} {R : DK} (hl : z.length ≤ 1000) (k : R (numG z) G) : sp_number_in [.str z] G R := ⟨z, rfl, hl, k⟩
/-! ### a machine's text -/
theorem sum_le' {α : Type} (f : α → Nat) (n : Nat) : ∀ l : List α, (∀ x ∈ l, f x ≤ n) → (l.map f).sum ≤ n * l.length
  | [], _ => by simp
  | x :: l, h => by
    have h1 := h x (List.mem_cons_self ..)
    have h2 := sum_le' f n l fun y hy => h y (List.mem_cons_of_mem _ hy)
    simp only [List.map_cons, List.sum_cons, List.length_cons, Nat.mul_add, Nat.mul_one]
    omega
def numZ (z : Int) : Str := Str.ofString (toString z)
def mwords (b : Int) (names : List Str) (h al mo c : Int) : List Str := ([("bits" : String), numZ b, ("registers" : String)] : List Str) ++ names ++ ([("hidden" : String), numZ h, ("alus" : String), numZ al, ("moves" : String), numZ mo, ("cells" : String), numZ c] : List Str)
def mtxt (b : Int) (names : List Str) (h al mo c : Int) : Str := Txt.join " " (mwords b names h al mo c)
theorem numZ_len {z : Int} (h0 : 0 ≤ z) (h1 : z ≤ 300) : (numZ z).length ≤ 9 := by
  have := num_dig ⟨z.toNat, by omega⟩
  simp only at this
  rw [show ((z.toNat : Nat) : Int) = z by omega] at this
  exact this.2.2
theorem mfit {b : Int} {names : List Str} {h al mo c : Int} (M : MachP b names h al mo c) : ((mwords b names h al mo c).map fun z : Str => z.length).sum + (mwords b names h al mo c).length * (Str.ofString " ").length ≤ 1000 := by
  have hc := M.c2; have ht := top_le M.b1 M.b2
  have h1 := numZ_len (z := b) (by have := M.b1; omega) (by have := M.b2; omega)
  have h2 := numZ_len (z := h) M.h1 (by have := M.h2; omega)
  have h3 := numZ_len (z := al) (by have := M.a1; omega) (by have := M.a2; omega)
  have h4 := numZ_len (z := mo) (by have := M.m1; omega) (by have := M.m2; omega)
  have h5 := numZ_len (z := c) M.c1 (by omega)
  have hn : (names.map fun z : Str => z.length).sum ≤ 8 * names.length := sum_le' _ 8 _ fun z hz => by
    have := (nameOk_iff.mp (M.nm.ok z hz)).1.2
    rw [cds_len] at this
    exact this
  have hl := M.n2
  unfold mwords
  simp only [List.map_append, List.map_cons, List.map_nil, List.sum_append, List.sum_cons, List.sum_nil, List.length_append, List.length_cons, List.length_nil]
  simp only [len_lit]
  have e1 : ("bits" : String).length = 4 := rfl
  have e2 : ("registers" : String).length = 9 := rfl
  have e3 : ("hidden" : String).length = 6 := rfl
  have e4 : ("alus" : String).length = 4 := rfl
  have e5 : ("moves" : String).length = 5 := rfl
  have e6 : ("cells" : String).length = 5 := rfl
  have e7 : (" " : String).length = 1 := rfl
  rw [e1, e2, e3, e4, e5, e6, e7, Nat.mul_one]
  omega
theorem star32 {a b c d e f : D} : starD 3 2 [a, b, c, d, e, f] = [a, b, .lst [c, d, e, f]] := rfl
theorem zip4 {a b c d a' b' c' d' : D} : zipD [a, b, c, d] [a', b', c', d'] = [.tup [a, a'], .tup [b, b'], .tup [c, c'], .tup [d, d']] := rfl
local macro_rules | `(tactic| walk_at "x") => `(tactic| first | simp only [star32, zip4] | fail)
def sp_show_machine : DSp := fun ds G R => ∃ (b : Int) (names : List Str) (h al mo c : Int), ds = [machD b names h al mo c] ∧ MachP b names h al mo c ∧ R (.str (mtxt b names h al mo c)) G
theorem ok_show_machine {P : Program} {w : World} {K : PySem.W.Frag} {mg : Str → Option Value} {base : Heap} {a : Ad} (T : Tx w K mg a) : FnD P w K mg base 1 a.f_show_machine a.fd_show_machine ["machine"] sp_show_machine := by
  refine fun_okD T.F_show_machine sc_show_machine (fun ds G R h => ?_) (fun cdv A outer s H hr => ⟨_, (qss_cons (qs_asg (qv 0) (qg_star (n := 3) (i := 2) (is := [1, 2, 3]) rfl (pgs_cons (pg_name (i := 1) sc_show_machine.nd rfl (.inl rfl)) (pgs_cons (pg_name (i := 2) sc_show_machine.nd rfl (.inl rfl)) (pgs_star (pg_name (i := 3) sc_show_machine.nd rfl (.inl rfl)) pgs_nil))) (by decide) rfl))
      (qss_cons (qs_set (i := 4) sc_show_machine.nd rfl (.inl rfl) (qe_op (od_add true) (qe_lst false (qa_cons qe_str (qa_cons (qe_callTy cd_strX rfl T.n_str (by decide +kernel) (qa_cons (qv 1) qa_nil)) (qa_cons qe_str qa_nil)))) (qe_callTy (cd_list false) rfl T.n_list (by decide +kernel) (qa_cons (qv 2) qa_nil))))
      (qss_cons (qs_for PassesOwn.never rfl (qi_zipM rfl T.n_zip (qa_cons (qe_globD rfl T.c_TAIL) (qa_cons (qv 3) qa_nil))) (qg_of (pg_tup rfl (pgs_cons (pg_name (i := 5) sc_show_machine.nd rfl (.inl rfl)) (pgs_cons (pg_name (i := 6) sc_show_machine.nd rfl (.inl rfl)) pgs_nil))) (tg_names (is := [5, 6]) (ws := [5, 6]) (by decide) rfl))
      (qss_one (qs_expr (qe_m PySem.F.plainAttrs_list PySem.F.slot_list_extend PySem.F.type_list_extend md_extend (qv 4) (qa_cons (qe_lst true (qa_cons (qv 5) (qa_cons (qe_callTy cd_strX rfl T.n_str (by decide +kernel) (qa_cons (qv 6) qa_nil)) qa_nil))) qa_nil)))))
      (qss_one (qs_ret (qe_m PySem.F.plainAttrs_str PySem.F.slot_str_join PySem.F.type_str_join md_join qe_str (qa_cons (qv 4) qa_nil))))))), fun ds G R h => ?_⟩)
  · obtain ⟨b, names, h, al, mo, c, rfl, _⟩ := h; rfl
  · obtain ⟨b, names, hh, al, mo, c, rfl, M, h⟩ := h
    have hn2 := M.n2
    have hb1 := M.b1; have hb2 := M.b2; have hh1 := M.h1; have hh2 := M.h2; have ha1 := M.a1; have ha2 := M.a2; have hm1 := M.m1; have hm2 := M.m2; have hc1 := M.c1; have hc2 := M.c2
    have ht := top_le hb1 hb2
    have lz : ∀ z : Int, 0 ≤ z → z ≤ 300 → z.natAbs.log2 < 1920 := fun z h0 h1 => by
      have := log_small (k := z.toNat) (by omega)
      rw [show ((z.toNat : Nat) : Int) = z by omega] at this
      exact this
    have hlb := lz b (by omega) (by omega)
    refine seq_cut (fun σ' G' => σ' = [some (machD b names hh al mo c), some (.int b), some (.tup (names.map .str)), some (.lst [.int hh, .int al, .int mo, .int c]), none, none, none] ∧ G' = G) ?_ (fun N1 hN1 => ?_)
    rotate_left
    · unfold machD
      walk_at "go"
      exact hN1 _ _ ⟨rfl, rfl⟩
    rintro σ G' ⟨rfl, hg⟩
    rw [hg]
    clear hg G'
    refine seq_cut (fun σ' G' => ∃ p, G p = none ∧ σ' = [some (machD b names hh al mo c), some (.int b), some (.tup (names.map .str)), some (.lst [.int hh, .int al, .int mo, .int c]), some (.ref p), none, none] ∧ G' p = some (.lst ((([("bits" : String), numZ b, ("registers" : String)] : List Str) ++ names).map .str)) ∧ Sub G G') ?_ (fun N1 hN1 => ?_)
    rotate_left
    · walk_at "go"
      rename_i p hp
      refine hN1 _ _ ⟨p, hp, rfl, ?_, Sub.new hp⟩
      rw [gup_same] <;> rfl
    rintro σ G1 ⟨p, hp, rfl, hG1, hS⟩
    refine seq_cut (fun σ' G' => ∃ x5 x6, σ' = [some (machD b names hh al mo c), some (.int b), some (.tup (names.map .str)), some (.lst [.int hh, .int al, .int mo, .int c]), some (.ref p), x5, x6] ∧ G' p = some (.lst ((mwords b names hh al mo c).map .str)) ∧ Sub G G') ?_ (fun N1 hN1 => ?_)
    rotate_left
    · walk_at "w"
      rw [zip4]
      refine for_go (fun rest σ G' => ∃ (x5 x6 : Option D) (ps : List (Str × Int)) (l : List Str), rest = ps.map (fun q => D.tup [.str q.1, .int q.2]) ∧ (∀ q ∈ ps, 0 ≤ q.2 ∧ q.2 ≤ 300) ∧ l ++ ps.flatMap (fun q => [q.1, numZ q.2]) = mwords b names hh al mo c ∧ σ = [some (machD b names hh al mo c), some (.int b), some (.tup (names.map .str)), some (.lst [.int hh, .int al, .int mo, .int c]), some (.ref p), x5, x6] ∧ G' p = some (.lst (l.map .str)) ∧ Sub G G') ?turn ?fin _ _ _ ⟨none, none, [(("hidden" : String), hh), (("alus" : String), al), (("moves" : String), mo), (("cells" : String), c)], ([("bits" : String), numZ b, ("registers" : String)] : List Str) ++ names, rfl, ?init, rfl, rfl, hG1, hS⟩
      case init =>
        intro q hq
        simp only [List.mem_cons, List.not_mem_nil, or_false] at hq
        rcases hq with rfl | rfl | rfl | rfl <;> simp only <;> omega
      case fin =>
        rintro σ G' ⟨x5, x6, ps, l, e, _, hw, rfl, hG, hS⟩
        have : ps = [] := by simpa using e.symm
        subst this
        refine ⟨⟨True.intro, True.intro⟩, hN1 _ _ ⟨x5, x6, rfl, ?_, hS⟩⟩
        rw [hG, ← hw]
        simp
      case turn =>
        rintro y rest σ G' ⟨x5, x6, ps, l, e, hb, hw, rfl, hG, hS⟩
        refine ⟨⟨True.intro, True.intro⟩, fun N hN => ?_⟩
        cases ps with
        | nil => cases e
        | cons q ps =>
          cases e
          have hq := hb q List.mem_cons_self
          have hlq := lz q.2 hq.1 hq.2
          have hlen : l.length + 2 ≤ 100 := by
            have h1 := congrArg List.length hw
            rw [List.flatMap_cons] at h1
            unfold mwords at h1
            simp at h1
            omega
          walk_at "go"
          refine ⟨mty_at hG, hlq, small_line (by decide), fun p2 hp2 => ?_⟩
          have hne : p ≠ p2 := fun z => by rw [← z, hG] at hp2; cases hp2
          have hG2 : gup G' p2 (.lst [.str q.1, .str (numZ q.2)]) p = some (.lst (l.map .str)) := by rw [gup_ne hne]; exact hG
          refine ext_go hG2 gup_same (small_line (by rw [List.length_map]; simp only [List.length_cons, List.length_nil]; omega)) ?_
          refine hN _ _ ⟨_, _, ps, l ++ [q.1, numZ q.2], rfl, fun z hz => hb z (List.mem_cons_of_mem _ hz), by rw [← hw]; simp, rfl, by rw [gup_same, List.map_append] <;> rfl, fun a u e => ?_⟩
          have ha : a ≠ p := fun z => by rw [z, hp] at e; cases e
          rw [gup_ne ha]
          exact (hS.news hp2) a u e
    rintro σ G1 ⟨x5, x6, rfl, hG, hS⟩
    have hf := mfit M
    walk_at "w"
    refine ⟨rfl, join_gor hG (strsOf_strs _) (by omega) ?_⟩
    exact ret_sub hS h
theorem go_show_machine {b : Int} {names : List Str} {h al mo c : Int} {G : Gp} {R : DK} (M : MachP b names h al mo c) (k : R (.str (mtxt b names h al mo c)) G) : sp_show_machine [machD b names h al mo c] G R := ⟨b, names, h, al, mo, c, rfl, M, k⟩
-- _law_line_of: not reached
end K15


set_option Elab.async false
set_option linter.all false
set_option maxRecDepth 100000
set_option maxHeartbeats 4000000
set_option autoImplicit false
namespace K15
open PySem PySem.Spec PyProof.Rows L2 DL
local macro_rules | `(tactic| walk_at "d") => `(tactic| dsimp only [dSeq, dNext, dIfS, dRet, dRetN, dAsg, dName, dVar, dC, dOp, dUn, dChain, dB, dAnd, dOr, dNot, dAndV, dOrV, dNotV, dIf, dNil, dCons, dTup, dLst, newL, dCallB, dCall, dCallK, dDrop, dAug, dAugS, dSub, dM, dM0, dSlice, dNoPart, dPart, dLc, dYes, dFor, dIter, dRng1, dEnum, dZipM, srcD, dStar, dInK, dIxK, dLenSet, dRev,
  startD, wipeD, setAll, dNames, List.map_cons, List.map_nil, List.length_cons, List.length_nil, List.replicate, List.cons_append, List.nil_append, List.append_nil, List.getElem?_cons_zero, List.getElem?_cons_succ, List.set_cons_zero, List.set_cons_succ, List.map, Nat.zero_add, Nat.reduceAdd, Nat.reduceSub, Nat.sub_self, Nat.succ_sub_succ_eq_sub])
local macro_rules | `(tactic| walk_at "o") => `(tactic| simp only [dAdd_ii, dAdd_ss, dAdd_tt, dAdd_ll, dMinus_ii, dMul_ii, dMod_ii, dFdiv_ii, dPow_ii, dShl_ii, dNeg_i, dIadd_ii, dLt_ii, dLe_ii, dGt_ii, dGe_ii, dEq_ii, dNe_ii, dEq_ss, dNe_ss, dEq_bb, dNe_bb, dIs_n, dIsNot_n, dMax2_ii, dMin2_ii, dTuple_t, dTuple_l, dList_t, dList_l, dIx_t, dIx_l, dIx_s, dSl_t, dSl_l, dSl_s, newL_f, len_tup, len_lst])
local macro_rules | `(tactic| walk_at "w") => `(tactic| dsimp only [x_var, x_c, x_op, x_un, x_b, x_and, x_or, x_not, x_chain, x_andV, x_orV, x_notV, x_if, x_nil, x_cons, x_tup, x_lst0, x_lst1, x_callB, x_call, x_callK, x_next, x_seq, x_break, x_cont, x_drop, x_ret, x_ifS, x_asg, x_name, x_names, x_sub, x_aug, x_augS, x_for, x_lc0, x_lc1, x_yes, x_noPart, x_part, x_slice, x_iter, it_t, it_l, it_n, it_s, it_r, x_rng1, x_enum, x_rev, x_m, x_m0, x_mX, x_zip, x_star_t, x_star_l, x_lenSet, x_forgo0, x_lcgo0, x_while, x_par, x_sortK,
  br_t, br_f, isB_bl, isI_int, isN_some, slo_some, atL_lst, ix_t, ix_l, ix_n,
  dAdd_ii, dAdd_ss, dAdd_tt, dAdd_ll, dMinus_ii, dMul_ii, dMod_ii, dFdiv_ii, dPow_ii, dShl_ii, dNeg_i, dIadd_ii, dLt_ii, dLe_ii, dGt_ii, dGe_ii, ltE_ii, ltE_ss, srcD, isi_i, isi_s, isi_b, isi_n, isi_t, isi_nt, isi_l, isi2_i, isi2_s, isi2_b, isi2_n, isi2_t, isi2_nt, isi2_l, inon_n, inon_i, inon_s, inon_b, inon_t, inon_l, inon_r, dEq_ii, dNe_ii, dEq_ss, dNe_ss, dEq_bb, dNe_bb, dIs_n, dIsNot_n, dMax2_ii, dMin2_ii, dTuple_t, dTuple_l, dList_t, dList_l, dSl_t, dSl_l, dSl_s, newL_f, newL_t, app_r, int_b, int_i, strI_i, strX_i, strX_s,
  startD, wipeD, setAll, permL, List.filterMap, List.map_cons, List.map_nil, List.length_cons, List.length_nil, List.replicate, List.cons_append, List.nil_append, List.append_nil, List.getElem?_cons_zero, List.getElem?_cons_succ, List.set_cons_zero, List.set_cons_succ, List.map, Nat.zero_add, Nat.reduceAdd, Nat.reduceSub, Nat.sub_self, Nat.succ_sub_succ_eq_sub])
local macro_rules | `(tactic| walk_at "v") => `(tactic| simp only [ofString_inj, String.reduceEq, at_0, at_1, at_2, at_3, at_4, at_5, isN_some, isBB_bl, isB_bl, br_t, br_f, br_not, br_and, br_or, br_dec, ix_r, len_tup, len_lst, len_nt, ltE_key, gup_gup, gup_same, starD_one, cut1, cut2, kt1, kt2, kt3, kt4, kt5, kt6, isTy, String.reduceBEq, Bool.or_false, Bool.false_or, Bool.true_or, Bool.or_true, Bool.and_false, Bool.false_and, Bool.true_and, Bool.and_true, Bool.not_true, Bool.not_false, decide_true, decide_false, eq_self_iff_true, Bool.false_eq_true, Int.reduceAdd, Int.add_zero, if_true, if_false, true_and, and_true])
local macro_rules | `(tactic| walk_at "side") => `(tactic| first | with_reducible assumption | omega | exact mty_up | exact True.intro | (simp only [List.mem_cons, ofString_inj, String.reduceEq, true_or, or_true, List.length_map]; done) | with_reducible exact (rfl : (_ : Nat) = _) | exact (rfl : (_ : Option String) = _) | (refine small_line ?_; omega) | (walk_at "ll"; first | omega | (refine small_line ?_; omega) | fail) | (exact log_small (by omega)) | fail)
local macro_rules | `(tactic| walk_at "x") => `(tactic| fail)
local macro_rules | `(tactic| walk_at "go") => `(tactic| repeat' (first | dsimp only [x_var, x_c, x_op, x_un, x_b, x_and, x_or, x_not, x_chain, x_andV, x_orV, x_notV, x_if, x_nil, x_cons, x_tup, x_lst0, x_lst1, x_callB, x_call, x_callK, x_next, x_seq, x_break, x_cont, x_drop, x_ret, x_ifS, x_asg, x_name, x_names, x_sub, x_aug, x_augS, x_for, x_lc0, x_lc1, x_yes, x_noPart, x_part, x_slice, x_iter, it_t, it_l, it_n, it_s, it_r, x_rng1, x_enum, x_rev, x_m, x_m0, x_mX, x_zip, x_star_t, x_star_l, x_lenSet, x_forgo0, x_lcgo0, x_while, x_par, x_sortK, br_t, br_f, isB_bl, isI_int, isN_some, slo_some, atL_lst, ix_t, ix_l, ix_n, dAdd_ii, dAdd_ss, dAdd_tt, dAdd_ll, dMinus_ii, dMul_ii, dMod_ii, dFdiv_ii, dPow_ii, dShl_ii, dNeg_i, dIadd_ii, dLt_ii, dLe_ii, dGt_ii, dGe_ii, ltE_ii, ltE_ss, srcD, isi_i, isi_s, isi_b, isi_n, isi_t, isi_nt, isi_l, isi2_i, isi2_s, isi2_b, isi2_n, isi2_t, isi2_nt, isi2_l, inon_n, inon_i, inon_s, inon_b, inon_t, inon_l, inon_r, dEq_ii, dNe_ii, dEq_ss, dNe_ss, dEq_bb, dNe_bb, dIs_n, dIsNot_n, dMax2_ii, dMin2_ii, dTuple_t, dTuple_l, dList_t, dList_l, dSl_t, dSl_l, dSl_s, newL_f, newL_t, app_r, int_b, int_i, strI_i, strX_i, strX_s, startD, wipeD, setAll, permL, List.filterMap, List.map_cons, List.map_nil, List.length_cons, List.length_nil, List.replicate, List.cons_append, List.nil_append, List.append_nil, List.getElem?_cons_zero, List.getElem?_cons_succ, List.set_cons_zero, List.set_cons_succ, List.map, Nat.zero_add, Nat.reduceAdd, Nat.reduceSub, Nat.sub_self, Nat.succ_sub_succ_eq_sub] | simp only [ofString_inj, String.reduceEq, at_0, at_1, at_2, at_3, at_4, at_5, isN_some, isBB_bl, isB_bl, br_t, br_f, br_not, br_and, br_or, br_dec, ix_r, len_tup, len_lst, len_nt, ltE_key, gup_gup, gup_same, starD_one, cut1, cut2, kt1, kt2, kt3, kt4, kt5, kt6, isTy, String.reduceBEq, Bool.or_false, Bool.false_or, Bool.true_or, Bool.or_true, Bool.and_false, Bool.false_and, Bool.true_and, Bool.and_true, Bool.not_true, Bool.not_false, decide_true, decide_false, eq_self_iff_true, Bool.false_eq_true, Int.reduceAdd, Int.add_zero, if_true, if_false, true_and, and_true] | walk_at "x" | with_reducible refine kont_go ?_ | with_reducible refine rt_sub (by assumption) ?_ | with_reducible refine rt_lst (by assumption) ?_ | with_reducible refine rt_drop (by assumption) ?_ | with_reducible refine rt_keep (by assumption) (by assumption) ?_ | with_reducible refine rt_same ?_ | (refine fun (p : Addr) (_ : _ = none) => ?_) | refine join_gor gup_same rfl (by walk_at "side") ?_ | with_reducible refine lc_cons ?_ | with_reducible refine for_cons ?_ | refine join_go rfl (by walk_at "side") ?_ | refine And.intro (by first | with_reducible assumption | omega | exact mty_up | exact True.intro | (simp only [List.mem_cons, ofString_inj, String.reduceEq, true_or, or_true, List.length_map]; done) | with_reducible exact (rfl : (_ : Nat) = _) | exact (rfl : (_ : Option String) = _) | (refine small_line ?_; omega) | (walk_at "ll"; first | omega | (refine small_line ?_; omega) | fail) | (exact log_small (by omega)) | fail) ?_ | fail))
local macro_rules | `(tactic| walk_at "ll") => `(tactic| simp only [List.length_map, List.length_append, List.length_cons, List.length_nil, List.map_cons, List.map_nil, List.sum_cons, List.sum_nil, len_app, rng_length, ll_0, ll_1, ll_2, ll_3, ll_4, ll_5, ll_6, ll_7, ll_8, ll_9, ll_10, ll_11, ll_12, ll_13, ll_14, ll_15, ll_16, ll_17, ll_18, ll_19, ll_20, ll_21, ll_22, ll_23, ll_24, ll_25, ll_26, ll_27, ll_28, ll_29, ll_30, ll_31, ll_32, ll_33, ll_34, ll_35, ll_36, ll_37, ll_38, ll_39, ll_40, ll_41, ll_42, ll_43, ll_44, ll_45, ll_46, ll_47, ll_48, ll_49, ll_50, ll_51, ll_52, ll_53, ll_54])
/-! ### a text cut at its blanks: plain -/
theorem spl_back : ∀ (l acc : List Nat), 32 ∉ acc → TL.joinL [32] (TL.spl [32] 0 acc l) = acc ++ l ∧ TL.spl [32] 0 acc l ≠ [] ∧ ∀ p ∈ TL.spl [32] 0 acc l, 32 ∉ p
  | [], acc, h => by rw [TL.spl_nil]; exact ⟨by simp [TL.joinL], by simp, fun p hp => by rw [List.mem_singleton.mp hp]; exact h⟩
  | c :: r, acc, h => by
    by_cases hc : c = 32
    · subst hc
      have e : TL.pre [32] (32 :: r) = true := by simp [TL.pre]
      rw [TL.spl_hit e]
      obtain ⟨h1, h2, h3⟩ := spl_back r [] (by simp)
      show TL.joinL [32] (acc :: TL.spl [32] 0 [] r) = _ ∧ _
      cases hs : TL.spl [32] 0 [] r with
      | nil => exact absurd hs h2
      | cons q t =>
        rw [hs] at h1 h3
        refine ⟨?_, by simp, fun p hp => ?_⟩
        · show acc ++ ([32] ++ TL.joinL [32] (q :: t)) = _
          rw [h1]
          simp
        · rcases List.mem_cons.mp hp with rfl | hp
          · exact h
          · exact h3 p hp
    · have e : TL.pre [32] (c :: r) = false := TL.pre_of_head [] r hc
      rw [TL.spl_miss e]
      obtain ⟨h1, h2, h3⟩ := spl_back r (acc ++ [c]) (fun z => by
        rcases List.mem_append.mp z with z | z
        · exact h z
        · exact hc (List.mem_singleton.mp z).symm)
      exact ⟨by rw [h1]; simp, h2, h3⟩
theorem joinL_len : ∀ ps : List (List Nat), ps ≠ [] → (∀ p ∈ ps, p.length ≤ (TL.joinL [32] ps).length) ∧ ps.length ≤ (TL.joinL [32] ps).length + 1
  | [], h => absurd rfl h
  | [p], _ => ⟨fun q hq => by rw [List.mem_singleton.mp hq]; exact Nat.le_refl _, by simp⟩
  | p :: q :: r, _ => by
    obtain ⟨h1, h2⟩ := joinL_len (q :: r) (by simp)
    have e : (TL.joinL [32] (p :: q :: r)).length = p.length + (1 + (TL.joinL [32] (q :: r)).length) := by
      show (p ++ ([32] ++ TL.joinL [32] (q :: r))).length = _
      simp
      omega
    rw [e]
    refine ⟨fun x hx => ?_, ?_⟩
    · rcases List.mem_cons.mp hx with rfl | hx
      · omega
      · have := h1 x hx; omega
    · rw [List.length_cons]; omega
theorem joinL_mem : ∀ (ps : List (List Nat)) (p : List Nat), p ∈ ps → ∀ c ∈ p, c ∈ TL.joinL [32] ps
  | [], _, h, _, _ => by cases h
  | [q], p, h, c, hc => by rw [List.mem_singleton.mp h] at hc; exact hc
  | q :: r :: t, p, h, c, hc => by
    show c ∈ q ++ ([32] ++ TL.joinL [32] (r :: t))
    rcases List.mem_cons.mp h with e | h
    · rw [e] at hc; exact List.mem_append_left _ hc
    · exact List.mem_append_right _ (List.mem_append_right _ (joinL_mem (r :: t) p h c hc))
/-- the words of a text -/
structure Words (z : Str) (ws : List Str) : Prop where
  eq : Txt.split z " " = ws
  ne : ws ≠ []
  no : ∀ w ∈ ws, 32 ∉ cds w
  jn : z = Txt.join " " ws
  wl : ∀ w ∈ ws, w.length ≤ z.length
  ln : ws.length ≤ z.length + 1
  cp : ∀ w ∈ ws, ∀ c ∈ w.cps.toList, c ∈ z.cps.toList
theorem words_of (z : Str) : ∃ ws, Words z ws := by
  have e32 : TL.tl (" " : Str) = [32] := by decide +kernel
  have e := TL.split_spl z " " (by decide +kernel) (TL.kind_ok (by decide +kernel))
  rw [e32] at e
  obtain ⟨h1, h2, h3⟩ := spl_back (TL.tl z) [] (by simp)
  rw [List.nil_append] at h1
  generalize hw : Txt.split z " " = ws at e
  have hne : ws ≠ [] := fun q => by rw [q] at e; exact h2 e.symm
  have hj : TL.joinL [32] (ws.map TL.tl) = TL.tl z := by rw [e]; exact h1
  obtain ⟨l1, l2⟩ := joinL_len (ws.map TL.tl) (by simpa using hne)
  rw [hj] at l1 l2
  refine ⟨ws, hw, hne, fun w hw' => ?_, ?_, fun w hw' => ?_, ?_, fun w hw' c hc => ?_⟩
  · exact h3 (TL.tl w) (by rw [← e]; exact List.mem_map.mpr ⟨w, hw', rfl⟩)
  · refine TL.ext_tl ?_
    rw [show Txt.join (" " : Str) ws = Str.join " " ws from PySem.StrLaws.glued_eq_join _ ws, TL.tl_join, e32, hj]
  · rw [TL.len_tl, TL.len_tl z]
    exact l1 _ (List.mem_map.mpr ⟨w, hw', rfl⟩)
  · rw [TL.len_tl z]
    rwa [List.length_map] at l2
  · have := joinL_mem (ws.map TL.tl) (TL.tl w) (List.mem_map.mpr ⟨w, hw', rfl⟩) c hc
    rwa [hj] at this
theorem Words.uniq {z : Str} {ws vs : List Str} (h : Words z ws) (hv : vs ≠ []) (hn : ∀ w ∈ vs, 32 ∉ cds w) (e : z = Txt.join " " vs) : ws = vs := by
  rw [← h.eq, e]
  exact split_one vs hv hn
/-- items by a step -/
theorem step_map {α β : Type} (f : α → β) (l : List α) (lo hi st : Option Int) : stepL (l.map f) lo hi st = (stepL l lo hi st).map f := by
  unfold stepL
  rw [List.length_map, List.map_filterMap]
  congr 1
  funext i
  rw [List.getElem?_map]
theorem step_mem {α : Type} {l : List α} {lo hi st : Option Int} {x : α} (h : x ∈ stepL l lo hi st) : x ∈ l := by
  unfold stepL at h
  obtain ⟨i, _, e⟩ := List.mem_filterMap.mp h
  exact List.mem_of_getElem? e
theorem step_len {α : Type} (l : List α) (a : Int) : (stepL l (some a) none (some 2)).length ≤ l.length := by
  unfold stepL
  refine Nat.le_trans (List.length_filterMap_le _ _) ?_
  unfold sliceBounds sliceRange
  simp only [Option.getD_some]
  split
  · simp
    have hs : 0 ≤ max 0 (min (if a < 0 then a + (l.length : Int) else a) (l.length : Int)) := Int.le_max_left _ _
    generalize max 0 (min (if a < 0 then a + (l.length : Int) else a) (l.length : Int)) = s at hs
    split <;> omega
  · rename_i hn
    exact absurd (by decide : (2 : Int) > 0) hn
/-! ### a machine's text read -/
theorem step_last {α : Type} (pre : List α) (w1 w2 w3 w4 w5 w6 w7 w8 : α) : stepL (pre ++ [w1, w2, w3, w4, w5, w6, w7, w8]) (some (-7)) none (some 2) = [w2, w4, w6, w8] := by
  have hl : (pre ++ [w1, w2, w3, w4, w5, w6, w7, w8]).length = pre.length + 8 := by simp
  have e0 : sliceBounds (some (-7)) none (some 2) (pre.length + 8) = (((pre.length + 1 : Nat) : Int), ((pre.length + 8 : Nat) : Int), 2) := by
    simp only [sliceBounds, Option.getD_some]
    refine Prod.ext ?_ (Prod.ext rfl rfl)
    simp
    omega
  have e1 : sliceRange ((pre.length + 1 : Nat) : Int) ((pre.length + 8 : Nat) : Int) 2 = [pre.length + 1, pre.length + 3, pre.length + 5, pre.length + 7] := by
    unfold sliceRange
    have : ((((pre.length + 8 : Nat) : Int) - ((pre.length + 1 : Nat) : Int) + 2 - 1) / 2) = 4 := by omega
    simp only [this]
    rw [if_pos (by omega), if_pos (by omega)]
    show [((pre.length + 1 : Nat) + 2 * ((0 : Nat) : Int)).toNat, _, _, _] = _
    simp
    omega
  unfold stepL
  rw [hl, e0]
  dsimp only
  rw [e1]
  simp [List.getElem?_append]
theorem cut_mid {α : Type} (a b c : α) (l : List α) (w1 w2 w3 w4 w5 w6 w7 w8 : α) : cutL ([a, b, c] ++ l ++ [w1, w2, w3, w4, w5, w6, w7, w8]) (some 3) (some (-8)) = l := by
  unfold cutL
  have hl : ([a, b, c] ++ l ++ [w1, w2, w3, w4, w5, w6, w7, w8]).length = l.length + 11 := by simp
  rw [hl]
  have e1 : HT.sIx (l.length + 11) 0 (some 3) = 3 := by simp [HT.sIx]
  have e2 : HT.sIx (l.length + 11) (l.length + 11) (some (-8)) = l.length + 3 := by simp [HT.sIx]; omega
  rw [e1, e2]
  simp
theorem namesOf_map : ∀ names : List Str, namesOf (names.map D.str) = names
  | [] => rfl
  | z :: r => by rw [List.map_cons, namesOf, namesOf_map r]
theorem mach_is {b : Int} {names : List Str} {h al mo c : Int} (M : MachP b names h al mo c) : isMach (machD b names h al mo c) = true := by
  have hn : (names.map D.str).all isName = true := by
    rw [List.all_eq_true]
    intro x hx
    obtain ⟨z, hz, rfl⟩ := List.mem_map.mp hx
    exact M.nm.ok z hz
  unfold machD isMach
  simp only [hn, namesOf_map, isWithin, cellsOk, List.length_map, Bool.and_eq_true, decide_eq_true_eq]
  exact ⟨⟨⟨⟨⟨⟨⟨⟨⟨M.b1, M.b2⟩, M.n1⟩, M.n2⟩, trivial⟩, M.nm.nd⟩, M.h1, M.h2⟩, M.a1, M.a2⟩, M.m1, M.m2⟩, M.c1, M.c2⟩
theorem numZ_blank {z : Int} (h0 : 0 ≤ z) (h1 : z ≤ 300) : 32 ∉ cds (numZ z) := by
  have := (num_dig ⟨z.toNat, by omega⟩).1
  simp only at this
  rw [show ((z.toNat : Nat) : Int) = z by omega, List.all_eq_true] at this
  exact fun hc => absurd (this 32 hc) (by decide)
theorem mtxt_split {b : Int} {names : List Str} {h al mo c : Int} (M : MachP b names h al mo c) : Txt.split (mtxt b names h al mo c) " " = mwords b names h al mo c := by
  have hc := M.c2; have ht := top_le M.b1 M.b2; have hb1 := M.b1; have hb2 := M.b2; have hh1 := M.h1; have hh2 := M.h2; have ha1 := M.a1; have ha2 := M.a2; have hm1 := M.m1; have hm2 := M.m2; have hc1 := M.c1
  refine split_one _ (by simp [mwords]) fun w hw => ?_
  unfold mwords at hw
  rcases List.mem_append.mp hw with hw | hw
  · rcases List.mem_append.mp hw with hw | hw
    · simp only [List.mem_cons, List.not_mem_nil, or_false] at hw
      rcases hw with rfl | rfl | rfl
      · decide +kernel
      · exact numZ_blank (by omega) (by omega)
      · decide +kernel
    · intro hc
      have := (nameOk_iff.mp (M.nm.ok w hw)).2 32 hc
      cases this
  · simp only [List.mem_cons, List.not_mem_nil, or_false] at hw
    rcases hw with rfl | rfl | rfl | rfl | rfl | rfl | rfl | rfl
    all_goals first | exact numZ_blank (by omega) (by omega) | decide +kernel
end K15


set_option Elab.async false
set_option linter.all false
set_option maxRecDepth 100000
set_option maxHeartbeats 4000000
set_option autoImplicit false
namespace K15
open PySem PySem.Spec PyProof.Rows L2 DL
local macro_rules | `(tactic| walk_at "d") => `(tactic| dsimp only [dSeq, dNext, dIfS, dRet, dRetN, dAsg, dName, dVar, dC, dOp, dUn, dChain, dB, dAnd, dOr, dNot, dAndV, dOrV, dNotV, dIf, dNil, dCons, dTup, dLst, newL, dCallB, dCall, dCallK, dDrop, dAug, dAugS, dSub, dM, dM0, dSlice, dNoPart, dPart, dLc, dYes, dFor, dIter, dRng1, dEnum, dZipM, srcD, dStar, dInK, dIxK, dLenSet, dRev,
  startD, wipeD, setAll, dNames, List.map_cons, List.map_nil, List.length_cons, List.length_nil, List.replicate, List.cons_append, List.nil_append, List.append_nil, List.getElem?_cons_zero, List.getElem?_cons_succ, List.set_cons_zero, List.set_cons_succ, List.map, Nat.zero_add, Nat.reduceAdd, Nat.reduceSub, Nat.sub_self, Nat.succ_sub_succ_eq_sub])
local macro_rules | `(tactic| walk_at "o") => `(tactic| simp only [dAdd_ii, dAdd_ss, dAdd_tt, dAdd_ll, dMinus_ii, dMul_ii, dMod_ii, dFdiv_ii, dPow_ii, dShl_ii, dNeg_i, dIadd_ii, dLt_ii, dLe_ii, dGt_ii, dGe_ii, dEq_ii, dNe_ii, dEq_ss, dNe_ss, dEq_bb, dNe_bb, dIs_n, dIsNot_n, dMax2_ii, dMin2_ii, dTuple_t, dTuple_l, dList_t, dList_l, dIx_t, dIx_l, dIx_s, dSl_t, dSl_l, dSl_s, newL_f, len_tup, len_lst])
local macro_rules | `(tactic| walk_at "w") => `(tactic| dsimp only [x_var, x_c, x_op, x_un, x_b, x_and, x_or, x_not, x_chain, x_andV, x_orV, x_notV, x_if, x_nil, x_cons, x_tup, x_lst0, x_lst1, x_callB, x_call, x_callK, x_next, x_seq, x_break, x_cont, x_drop, x_ret, x_ifS, x_asg, x_name, x_names, x_sub, x_aug, x_augS, x_for, x_lc0, x_lc1, x_yes, x_noPart, x_part, x_slice, x_iter, it_t, it_l, it_n, it_s, it_r, x_rng1, x_enum, x_rev, x_m, x_m0, x_mX, x_zip, x_star_t, x_star_l, x_lenSet, x_forgo0, x_lcgo0, x_while, x_par, x_sortK,
  br_t, br_f, isB_bl, isI_int, isN_some, slo_some, atL_lst, ix_t, ix_l, ix_n,
  dAdd_ii, dAdd_ss, dAdd_tt, dAdd_ll, dMinus_ii, dMul_ii, dMod_ii, dFdiv_ii, dPow_ii, dShl_ii, dNeg_i, dIadd_ii, dLt_ii, dLe_ii, dGt_ii, dGe_ii, ltE_ii, ltE_ss, srcD, isi_i, isi_s, isi_b, isi_n, isi_t, isi_nt, isi_l, isi2_i, isi2_s, isi2_b, isi2_n, isi2_t, isi2_nt, isi2_l, inon_n, inon_i, inon_s, inon_b, inon_t, inon_l, inon_r, dEq_ii, dNe_ii, dEq_ss, dNe_ss, dEq_bb, dNe_bb, dIs_n, dIsNot_n, dMax2_ii, dMin2_ii, dTuple_t, dTuple_l, dList_t, dList_l, dSl_t, dSl_l, dSl_s, newL_f, newL_t, app_r, int_b, int_i, strI_i, strX_i, strX_s,
  startD, wipeD, setAll, permL, List.filterMap, List.map_cons, List.map_nil, List.length_cons, List.length_nil, List.replicate, List.cons_append, List.nil_append, List.append_nil, List.getElem?_cons_zero, List.getElem?_cons_succ, List.set_cons_zero, List.set_cons_succ, List.map, Nat.zero_add, Nat.reduceAdd, Nat.reduceSub, Nat.sub_self, Nat.succ_sub_succ_eq_sub])
local macro_rules | `(tactic| walk_at "v") => `(tactic| simp only [ofString_inj, String.reduceEq, at_0, at_1, at_2, at_3, at_4, at_5, isN_some, isBB_bl, isB_bl, br_t, br_f, br_not, br_and, br_or, br_dec, ix_r, len_tup, len_lst, len_nt, ltE_key, gup_gup, gup_same, starD_one, cut1, cut2, kt1, kt2, kt3, kt4, kt5, kt6, isTy, String.reduceBEq, Bool.or_false, Bool.false_or, Bool.true_or, Bool.or_true, Bool.and_false, Bool.false_and, Bool.true_and, Bool.and_true, Bool.not_true, Bool.not_false, decide_true, decide_false, eq_self_iff_true, Bool.false_eq_true, Int.reduceAdd, Int.add_zero, if_true, if_false, true_and, and_true])
local macro_rules | `(tactic| walk_at "side") => `(tactic| first | with_reducible assumption | omega | exact mty_up | exact True.intro | (simp only [List.mem_cons, ofString_inj, String.reduceEq, true_or, or_true, List.length_map]; done) | with_reducible exact (rfl : (_ : Nat) = _) | exact (rfl : (_ : Option String) = _) | (refine small_line ?_; omega) | (walk_at "ll"; first | omega | (refine small_line ?_; omega) | fail) | (exact log_small (by omega)) | fail)
local macro_rules | `(tactic| walk_at "x") => `(tactic| fail)
local macro_rules | `(tactic| walk_at "go") => `(tactic| repeat' (first | dsimp only [x_var, x_c, x_op, x_un, x_b, x_and, x_or, x_not, x_chain, x_andV, x_orV, x_notV, x_if, x_nil, x_cons, x_tup, x_lst0, x_lst1, x_callB, x_call, x_callK, x_next, x_seq, x_break, x_cont, x_drop, x_ret, x_ifS, x_asg, x_name, x_names, x_sub, x_aug, x_augS, x_for, x_lc0, x_lc1, x_yes, x_noPart, x_part, x_slice, x_iter, it_t, it_l, it_n, it_s, it_r, x_rng1, x_enum, x_rev, x_m, x_m0, x_mX, x_zip, x_star_t, x_star_l, x_lenSet, x_forgo0, x_lcgo0, x_while, x_par, x_sortK, br_t, br_f, isB_bl, isI_int, isN_some, slo_some, atL_lst, ix_t, ix_l, ix_n, dAdd_ii, dAdd_ss, dAdd_tt, dAdd_ll, dMinus_ii, dMul_ii, dMod_ii, dFdiv_ii, dPow_ii, dShl_ii, dNeg_i, dIadd_ii, dLt_ii, dLe_ii, dGt_ii, dGe_ii, ltE_ii, ltE_ss, srcD, isi_i, isi_s, isi_b, isi_n, isi_t, isi_nt, isi_l, isi2_i, isi2_s, isi2_b, isi2_n, isi2_t, isi2_nt, isi2_l, inon_n, inon_i, inon_s, inon_b, inon_t, inon_l, inon_r, dEq_ii, dNe_ii, dEq_ss, dNe_ss, dEq_bb, dNe_bb, dIs_n, dIsNot_n, dMax2_ii, dMin2_ii, dTuple_t, dTuple_l, dList_t, dList_l, dSl_t, dSl_l, dSl_s, newL_f, newL_t, app_r, int_b, int_i, strI_i, strX_i, strX_s, startD, wipeD, setAll, permL, List.filterMap, List.map_cons, List.map_nil, List.length_cons, List.length_nil, List.replicate, List.cons_append, List.nil_append, List.append_nil, List.getElem?_cons_zero, List.getElem?_cons_succ, List.set_cons_zero, List.set_cons_succ, List.map, Nat.zero_add, Nat.reduceAdd, Nat.reduceSub, Nat.sub_self, Nat.succ_sub_succ_eq_sub] | simp only [ofString_inj, String.reduceEq, at_0, at_1, at_2, at_3, at_4, at_5, isN_some, isBB_bl, isB_bl, br_t, br_f, br_not, br_and, br_or, br_dec, ix_r, len_tup, len_lst, len_nt, ltE_key, gup_gup, gup_same, starD_one, cut1, cut2, kt1, kt2, kt3, kt4, kt5, kt6, isTy, String.reduceBEq, Bool.or_false, Bool.false_or, Bool.true_or, Bool.or_true, Bool.and_false, Bool.false_and, Bool.true_and, Bool.and_true, Bool.not_true, Bool.not_false, decide_true, decide_false, eq_self_iff_true, Bool.false_eq_true, Int.reduceAdd, Int.add_zero, if_true, if_false, true_and, and_true] | walk_at "x" | with_reducible refine kont_go ?_ | with_reducible refine rt_sub (by assumption) ?_ | with_reducible refine rt_lst (by assumption) ?_ | with_reducible refine rt_drop (by assumption) ?_ | with_reducible refine rt_keep (by assumption) (by assumption) ?_ | with_reducible refine rt_same ?_ | (refine fun (p : Addr) (_ : _ = none) => ?_) | refine join_gor gup_same rfl (by walk_at "side") ?_ | with_reducible refine lc_cons ?_ | with_reducible refine for_cons ?_ | refine join_go rfl (by walk_at "side") ?_ | refine And.intro (by first | with_reducible assumption | omega | exact mty_up | exact True.intro | (simp only [List.mem_cons, ofString_inj, String.reduceEq, true_or, or_true, List.length_map]; done) | with_reducible exact (rfl : (_ : Nat) = _) | exact (rfl : (_ : Option String) = _) | (refine small_line ?_; omega) | (walk_at "ll"; first | omega | (refine small_line ?_; omega) | fail) | (exact log_small (by omega)) | fail) ?_ | fail))
local macro_rules | `(tactic| walk_at "ll") => `(tactic| simp only [List.length_map, List.length_append, List.length_cons, List.length_nil, List.map_cons, List.map_nil, List.sum_cons, List.sum_nil, len_app, rng_length, ll_0, ll_1, ll_2, ll_3, ll_4, ll_5, ll_6, ll_7, ll_8, ll_9, ll_10, ll_11, ll_12, ll_13, ll_14, ll_15, ll_16, ll_17, ll_18, ll_19, ll_20, ll_21, ll_22, ll_23, ll_24, ll_25, ll_26, ll_27, ll_28, ll_29, ll_30, ll_31, ll_32, ll_33, ll_34, ll_35, ll_36, ll_37, ll_38, ll_39, ll_40, ll_41, ll_42, ll_43, ll_44, ll_45, ll_46, ll_47, ll_48, ll_49, ll_50, ll_51, ll_52, ll_53, ll_54])
/-! ### a machine read from any text -/
theorem within_of {x : D} {lo hi : Int} (h : isWithin x lo hi = true) : ∃ i, x = .int i ∧ lo ≤ i ∧ i ≤ hi := by
  cases x with
  | int i =>
    simp only [isWithin, Bool.and_eq_true, decide_eq_true_eq] at h
    exact ⟨i, rfl, h.1, h.2⟩
  | _ => simp [isWithin] at h
theorem isMach_of {d0 : D} {names : List Str} {ds : List D} (h : isMach (.tup (d0 :: .tup (names.map D.str) :: ds)) = true) : ∃ b hh al mo c, d0 = .int b ∧ ds = [.int hh, .int al, .int mo, .int c] ∧ MachP b names hh al mo c := by
  match ds, h with
  | [a1, a2, a3, a4], h =>
    simp only [isMach, Bool.and_eq_true, decide_eq_true_eq, List.length_map, namesOf_map] at h
    obtain ⟨⟨⟨⟨⟨⟨⟨⟨p1, p2⟩, p3⟩, p4⟩, p5⟩, p6⟩, p7⟩, p8⟩, p9⟩ := h
    obtain ⟨b, rfl, b1, b2⟩ := within_of p1
    obtain ⟨hh, rfl, q1, q2⟩ := within_of p6
    obtain ⟨al, rfl, q3, q4⟩ := within_of p7
    obtain ⟨mo, rfl, q5, q6⟩ := within_of p8
    obtain ⟨c, rfl, q7, q8⟩ := within_of (show isWithin a4 0 (2 ^ b.toNat) = true from p9)
    exact ⟨b, hh, al, mo, c, rfl, rfl, ⟨b1, b2, p2, p3, ⟨fun z hz => List.all_eq_true.mp p4 (.str z) (List.mem_map.mpr ⟨z, hz, rfl⟩), p5⟩, q1, q2, q3, q4, q5, q6, q7, q8⟩⟩
  | [], h => simp [isMach] at h
  | [_], h => simp [isMach] at h
  | [_, _], h => simp [isMach] at h
  | [_, _, _], h => simp [isMach] at h
  | _ :: _ :: _ :: _ :: _ :: _, h => simp [isMach] at h
theorem numG_pl (z : Str) : plD (numG z) = true := by unfold numG; split <;> rfl
theorem cutX_map {α β : Type} (f : α → β) (l : List α) (lo hi : Option Int) : cutL (l.map f) lo hi = (cutL l lo hi).map f := by
  unfold cutL
  rw [List.length_map, List.map_take, List.map_drop]
theorem num_good : ∀ k : Fin 301, numOkW (numZ ((k.val : Nat) : Int)) = true ∧ NumText.digitsVal (cds (numZ ((k.val : Nat) : Int))) = k.val := by decide +kernel
theorem numG_num {z : Int} (h0 : 0 ≤ z) (h1 : z ≤ 300) : numG (numZ z) = .int z := by
  obtain ⟨a, b⟩ := num_good ⟨z.toNat, by omega⟩
  dsimp only at a b
  rw [show ((z.toNat : Nat) : Int) = z by omega] at a b
  unfold numG
  rw [if_pos a, b, show ((z.toNat : Nat) : Int) = z by omega]
/-- the second word, none where there is none -/
def wd1 (ws : List Str) : Str := (ws[1]?).getD ""
theorem wd1_at {ws : List Str} (h : ws ≠ []) : atI (ws.map D.str ++ [D.str ("" : String), D.str ("" : String)]) 1 = some (.str (wd1 ws)) := by
  match ws, h with
  | [a], _ => exact at_1
  | a :: b :: r, _ => exact at_1
theorem found_of {z : Str} {ws : List Str} (hW : Words z ws) {b : Int} {names : List Str} {hh al mo c : Int} (M : MachP b names hh al mo c) (e : z = mtxt b names hh al mo c) : ws = mwords b names hh al mo c ∧ numG (wd1 ws) = .int b ∧ cutL ws (some 3) (some (-8)) = names ∧ (stepL ws (some (-7)) none (some 2)).map numG = [.int hh, .int al, .int mo, .int c] := by
  have hb1 := M.b1; have hb2 := M.b2; have hh1 := M.h1; have hh2 := M.h2; have ha1 := M.a1; have ha2 := M.a2; have hm1 := M.m1; have hm2 := M.m2; have hc1 := M.c1; have hc2 := M.c2
  have ht := top_le hb1 hb2
  have ew : ws = mwords b names hh al mo c := by rw [← hW.eq, e]; exact mtxt_split M
  refine ⟨ew, ?_, ?_, ?_⟩
  · rw [ew, show wd1 (mwords b names hh al mo c) = numZ b from rfl]
    exact numG_num (by omega) (by omega)
  · rw [ew]
    unfold mwords
    exact cut_mid _ _ _ names _ _ _ _ _ _ _ _
  · rw [ew]
    unfold mwords
    rw [step_last]
    simp only [List.map_cons, List.map_nil]
    rw [numG_num (by omega) (by omega), numG_num (by omega) (by omega), numG_num (by omega) (by omega), numG_num (by omega) (by omega)]
def NoMach (z : Str) : Prop := ∀ b names hh al mo c, MachP b names hh al mo c → z ≠ mtxt b names hh al mo c
def sp_read_machine (a : Ad) : DSpX := fun ds G R RX => ∃ z, ds = [.str z] ∧ z.length ≤ 600 ∧ pyD (.str z) = true ∧ (∀ b names hh al mo c, MachP b names hh al mo c → z = mtxt b names hh al mo c → R (machD b names hh al mo c) G) ∧ (NoMach z → RX (.ref a.x_NoText) [("row", .int 1)] G)
local macro_rules | `(tactic| walk_at "x") => `(tactic| first
  | dsimp only [x_raise, x_raiseF, x_step]
  | fail)
theorem ok_read_machine {P : Program} {w : World} {K : PySem.W.Frag} {mg : Str → Option Value} {base : Heap} {a : Ad} (T : Tx w K mg a) : FnX P w K mg base 4 a.f_read_machine a.fd_read_machine ["text"] (sp_read_machine a) := by
  refine fun_okX T.F_read_machine sc_read_machine (fun ds G R RX h => ?_) (fun cdv A outer s H E hr tk => ⟨_, (ssx_cons (sx_of (qs_set (i := 1) sc_read_machine.nd rfl (.inl rfl) (qe_m PySem.F.plainAttrs_str PySem.F.slot_str_split PySem.F.type_str_split (md_split false) (qv 0) (qa_cons qe_str qa_nil))))
      (ssx_cons (sx_of (qs_setLc false (i := 2) rfl sc_read_machine.nd rfl rfl (sw_true rfl rfl rfl (by decide +kernel)) (qi_seq (qe_step false (qv 1) (qo_some (qe_un od_neg qe_int)) qo_none (qo_some qe_int) (fun _ _ => rfl))) (blkOk_by (own := [("word", 4)]) (N := N_read_machine) (sc := defScope s_read_machine) (by decide +kernel)) (fun _ _ _ _ _ => (pg_name (i := 4) sc_read_machine.nd rfl (.inl rfl))) (tg_name (i := 4) (by decide)) (fun _ _ _ _ _ => qts_nil) (fun _ _ _ _ _ => (qe_call (ok_number_in T) (hr.mono (by omega)) rfl T.g_number_in T.F_number_in.kp T.b_number_in (qa_cons (qv 4) qa_nil)))))
      (ssx_cons (sx_of (qs_set (i := 3) sc_read_machine.nd rfl (.inl rfl) (qe_op (od_add false) (qe_tup (qa_cons (qe_call (ok_number_in T) (hr.mono (by omega)) rfl T.g_number_in T.F_number_in.kp T.b_number_in (qa_cons (qe_ix xd_ix (qe_op (od_add false) (qv 1) (qe_lst false (qa_cons qe_str (qa_cons qe_str qa_nil)))) qe_int (fun _ _ => rfl)) qa_nil)) (qa_cons (qe_callTy cd_tuple rfl T.n_tuple (by decide +kernel) (qa_cons (qe_slice false (qv 1) (qo_some qe_int) (qo_some (qe_un od_neg qe_int))) qa_nil)) qa_nil))) (qe_callTy cd_tuple rfl T.n_tuple (by decide +kernel) (qa_cons (qv 2) qa_nil)))))
      (ssx_cons (sx_if (tx_of (QW.pt (qw_or (qt_not (qt_val (qe_call (ok_is_machine T) (hr.mono (by omega)) rfl T.g_is_machine T.F_is_machine.kp T.b_is_machine (qa_cons (qv 3) qa_nil)))) (qw_or1 (qt_cmp (od_ne hr.units) (qe_call (ok_show_machine T) (hr.mono (by omega)) rfl T.g_show_machine T.F_show_machine.kp T.b_show_machine (qa_cons (qv 3) qa_nil)) (qv 0) (nomark _))))))
      (ssx_one (sx_raiseF rfl tk T.oe_NoText T.ii_NoText T.ti_NoText T.no_NoText (oki_NoText T) (hr.mono (by omega)) T.bi_NoText rfl T.gx_NoText qe_int))
      ssx_nil)
      (ssx_one (sx_of (qs_ret (qv 3)))))))), fun ds G R RX h => ?_⟩)
  · obtain ⟨z, rfl, _⟩ := h; rfl
  · obtain ⟨z, rfl, hl, hpy, h1, h2⟩ := h
    obtain ⟨ws, hW⟩ := words_of z
    have hwl : ∀ x ∈ ws, x.length ≤ 600 := fun x hx => Nat.le_trans (hW.wl x hx) hl
    have hln := hW.ln
    refine seq_cut (fun σ' G' => σ' = [some (.str z), some (.lst (ws.map D.str)), none, none, none] ∧ G' = G) ?_ (fun N1 hN1 => ?_)
    rotate_left
    · walk_at "go"
      refine split_go hW.eq (by decide +kernel) (by omega) ?_
      exact hN1 _ _ ⟨rfl, rfl⟩
    rintro σ G1 ⟨rfl, rfl⟩
    refine seq_cut (fun σ' G' => σ' = [some (.str z), some (.lst (ws.map D.str)), some (.lst ((stepL ws (some (-7)) none (some 2)).map numG)), none, none] ∧ G' = G1) ?_ (fun N1 hN1 => ?_)
    rotate_left
    · walk_at "go"
      rw [show lstOf G1 (D.lst (ws.map D.str)) = some (ws.map D.str) from rfl]
      dsimp only
      rw [step_map]
      have hsl := step_len ws (-7)
      refine ⟨by decide, by rw [List.length_map, sizeLine_eq]; omega, by rw [List.length_map, sizeLine_eq]; omega, ?_⟩
      refine lc_typ D.str numG True.intro (stepL ws (some (-7)) none (some 2)) [] (fun w hw Q q => ?_) _ ?_
      · walk_at "go"
        exact go_number (by have := hwl w (step_mem hw); omega) q
      rw [List.nil_append]
      exact hN1 _ _ ⟨rfl, rfl⟩
    rintro σ G2 ⟨rfl, rfl⟩
    have hsl := step_len ws (-7)
    refine seq_cut (fun σ' G' => σ' = [some (.str z), some (.lst (ws.map D.str)), some (.lst ((stepL ws (some (-7)) none (some 2)).map numG)), some (.tup (numG (wd1 ws) :: .tup ((cutL ws (some 3) (some (-8))).map D.str) :: (stepL ws (some (-7)) none (some 2)).map numG)), none] ∧ G' = G2) ?_ (fun N1 hN1 => ?_)
    rotate_left
    · walk_at "go"
      rw [wd1_at hW.ne, isN_some]
      have hw1 : (wd1 ws).length ≤ 1000 := by
        unfold wd1
        cases h1 : ws[1]? with
        | none => decide
        | some w => have := hwl w (List.mem_of_getElem? h1); simpa using (show w.length ≤ 1000 by omega)
      refine go_number hw1 ⟨by decide, by rw [List.length_map, sizeLine_eq]; omega, ?_⟩
      rw [cutX_map]
      exact hN1 _ _ ⟨rfl, rfl⟩
    rintro σ G3 ⟨rfl, rfl⟩
    have hpl : plD (.tup (numG (wd1 ws) :: .tup ((cutL ws (some 3) (some (-8))).map D.str) :: (stepL ws (some (-7)) none (some 2)).map numG)) = true := by
      have hc : (cutL ws (some 3) (some (-8))).length ≤ ws.length := by unfold cutL; rw [List.length_take, List.length_drop]; omega
      refine pl_tup.mpr ⟨by simp only [List.length_cons, List.length_map]; omega, fun d hd => ?_⟩
      rcases List.mem_cons.mp hd with e | hd
      · rw [e]; exact numG_pl _
      rcases List.mem_cons.mp hd with e | hd
      · rw [e]
        refine pl_tup.mpr ⟨by rw [List.length_map]; omega, fun d hd => ?_⟩
        obtain ⟨w, hw, e⟩ := List.mem_map.mp hd
        have := hwl w (List.mem_of_mem_drop (List.mem_of_mem_take hw))
        rw [← e]; exact pl_str.mpr ⟨by omega, fun c hc => of_decide_eq_true (List.all_eq_true.mp (show (z.cps.toList.all fun c => decide (c < 1114112)) = true by simpa only [pyD] using hpy) c (hW.cp w (List.mem_of_mem_drop (List.mem_of_mem_take hw)) c hc))⟩
      · obtain ⟨w, _, e⟩ := List.mem_map.mp hd
        rw [← e]; exact numG_pl _
    by_cases hno : NoMach z
    · have hrx := h2 hno
      walk_at "go"
      cases hm : isMach (.tup (numG (wd1 ws) :: .tup ((cutL ws (some 3) (some (-8))).map D.str) :: (stepL ws (some (-7)) none (some 2)).map numG)) with
      | false =>
        exact ⟨_, DL.Sub.refl _, hrx⟩
      | true =>
        obtain ⟨b, hh, al, mo, c, e1, e2, M⟩ := isMach_of hm
        rw [e1, e2, br_t]
        refine go_show_machine M ?_
        have hne : z ≠ mtxt b ((cutL ws (some 3) (some (-8)))) hh al mo c := hno b _ hh al mo c M
        walk_at "go"
        rw [if_neg fun q => hne q.symm]
        exact ⟨_, DL.Sub.refl _, hrx⟩
    · obtain ⟨b, names, hh, al, mo, c, M, e⟩ : ∃ b names hh al mo c, MachP b names hh al mo c ∧ z = mtxt b names hh al mo c := by
        unfold NoMach at hno
        simp only [Classical.not_forall, ne_eq, Classical.not_not] at hno
        obtain ⟨b, names, hh, al, mo, c, M, e⟩ := hno
        exact ⟨b, names, hh, al, mo, c, M, e⟩
      obtain ⟨_, f1, f2, f3⟩ := found_of hW M e
      rw [f1, f2, f3] at hpl ⊢
      walk_at "go"
      rw [show isMach (.tup [.int b, .tup (names.map D.str), .int hh, .int al, .int mo, .int c]) = true from mach_is M, br_t]
      refine go_show_machine M ?_
      walk_at "go"
      rw [if_pos e.symm]
      walk_at "go"
      exact h1 _ _ _ _ _ _ M e
end K15


set_option Elab.async false
set_option linter.all false
set_option maxRecDepth 100000
set_option maxHeartbeats 4000000
set_option autoImplicit false
namespace K15
open PySem PySem.Spec PyProof.Rows L2 DL
local macro_rules | `(tactic| walk_at "d") => `(tactic| dsimp only [dSeq, dNext, dIfS, dRet, dRetN, dAsg, dName, dVar, dC, dOp, dUn, dChain, dB, dAnd, dOr, dNot, dAndV, dOrV, dNotV, dIf, dNil, dCons, dTup, dLst, newL, dCallB, dCall, dCallK, dDrop, dAug, dAugS, dSub, dM, dM0, dSlice, dNoPart, dPart, dLc, dYes, dFor, dIter, dRng1, dEnum, dZipM, srcD, dStar, dInK, dIxK, dLenSet, dRev,
  startD, wipeD, setAll, dNames, List.map_cons, List.map_nil, List.length_cons, List.length_nil, List.replicate, List.cons_append, List.nil_append, List.append_nil, List.getElem?_cons_zero, List.getElem?_cons_succ, List.set_cons_zero, List.set_cons_succ, List.map, Nat.zero_add, Nat.reduceAdd, Nat.reduceSub, Nat.sub_self, Nat.succ_sub_succ_eq_sub])
local macro_rules | `(tactic| walk_at "o") => `(tactic| simp only [dAdd_ii, dAdd_ss, dAdd_tt, dAdd_ll, dMinus_ii, dMul_ii, dMod_ii, dFdiv_ii, dPow_ii, dShl_ii, dNeg_i, dIadd_ii, dLt_ii, dLe_ii, dGt_ii, dGe_ii, dEq_ii, dNe_ii, dEq_ss, dNe_ss, dEq_bb, dNe_bb, dIs_n, dIsNot_n, dMax2_ii, dMin2_ii, dTuple_t, dTuple_l, dList_t, dList_l, dIx_t, dIx_l, dIx_s, dSl_t, dSl_l, dSl_s, newL_f, len_tup, len_lst])
local macro_rules | `(tactic| walk_at "w") => `(tactic| dsimp only [x_var, x_c, x_op, x_un, x_b, x_and, x_or, x_not, x_chain, x_andV, x_orV, x_notV, x_if, x_nil, x_cons, x_tup, x_lst0, x_lst1, x_callB, x_call, x_callK, x_next, x_seq, x_break, x_cont, x_drop, x_ret, x_ifS, x_asg, x_name, x_names, x_sub, x_aug, x_augS, x_for, x_lc0, x_lc1, x_yes, x_noPart, x_part, x_slice, x_iter, it_t, it_l, it_n, it_s, it_r, x_rng1, x_enum, x_rev, x_m, x_m0, x_mX, x_zip, x_star_t, x_star_l, x_lenSet, x_forgo0, x_lcgo0, x_while, x_par, x_sortK,
  br_t, br_f, isB_bl, isI_int, isN_some, slo_some, atL_lst, ix_t, ix_l, ix_n,
  dAdd_ii, dAdd_ss, dAdd_tt, dAdd_ll, dMinus_ii, dMul_ii, dMod_ii, dFdiv_ii, dPow_ii, dShl_ii, dNeg_i, dIadd_ii, dLt_ii, dLe_ii, dGt_ii, dGe_ii, ltE_ii, ltE_ss, srcD, isi_i, isi_s, isi_b, isi_n, isi_t, isi_nt, isi_l, isi2_i, isi2_s, isi2_b, isi2_n, isi2_t, isi2_nt, isi2_l, inon_n, inon_i, inon_s, inon_b, inon_t, inon_l, inon_r, dEq_ii, dNe_ii, dEq_ss, dNe_ss, dEq_bb, dNe_bb, dIs_n, dIsNot_n, dMax2_ii, dMin2_ii, dTuple_t, dTuple_l, dList_t, dList_l, dSl_t, dSl_l, dSl_s, newL_f, newL_t, app_r, int_b, int_i, strI_i, strX_i, strX_s,
  startD, wipeD, setAll, permL, List.filterMap, List.map_cons, List.map_nil, List.length_cons, List.length_nil, List.replicate, List.cons_append, List.nil_append, List.append_nil, List.getElem?_cons_zero, List.getElem?_cons_succ, List.set_cons_zero, List.set_cons_succ, List.map, Nat.zero_add, Nat.reduceAdd, Nat.reduceSub, Nat.sub_self, Nat.succ_sub_succ_eq_sub])
local macro_rules | `(tactic| walk_at "v") => `(tactic| simp only [ofString_inj, String.reduceEq, at_0, at_1, at_2, at_3, at_4, at_5, isN_some, isBB_bl, isB_bl, br_t, br_f, br_not, br_and, br_or, br_dec, ix_r, len_tup, len_lst, len_nt, ltE_key, gup_gup, gup_same, starD_one, cut1, cut2, kt1, kt2, kt3, kt4, kt5, kt6, isTy, String.reduceBEq, Bool.or_false, Bool.false_or, Bool.true_or, Bool.or_true, Bool.and_false, Bool.false_and, Bool.true_and, Bool.and_true, Bool.not_true, Bool.not_false, decide_true, decide_false, eq_self_iff_true, Bool.false_eq_true, Int.reduceAdd, Int.add_zero, if_true, if_false, true_and, and_true])
local macro_rules | `(tactic| walk_at "side") => `(tactic| first | with_reducible assumption | omega | exact mty_up | exact True.intro | (simp only [List.mem_cons, ofString_inj, String.reduceEq, true_or, or_true, List.length_map]; done) | with_reducible exact (rfl : (_ : Nat) = _) | exact (rfl : (_ : Option String) = _) | (refine small_line ?_; omega) | (walk_at "ll"; first | omega | (refine small_line ?_; omega) | fail) | (exact log_small (by omega)) | fail)
local macro_rules | `(tactic| walk_at "x") => `(tactic| fail)
local macro_rules | `(tactic| walk_at "go") => `(tactic| repeat' (first | dsimp only [x_var, x_c, x_op, x_un, x_b, x_and, x_or, x_not, x_chain, x_andV, x_orV, x_notV, x_if, x_nil, x_cons, x_tup, x_lst0, x_lst1, x_callB, x_call, x_callK, x_next, x_seq, x_break, x_cont, x_drop, x_ret, x_ifS, x_asg, x_name, x_names, x_sub, x_aug, x_augS, x_for, x_lc0, x_lc1, x_yes, x_noPart, x_part, x_slice, x_iter, it_t, it_l, it_n, it_s, it_r, x_rng1, x_enum, x_rev, x_m, x_m0, x_mX, x_zip, x_star_t, x_star_l, x_lenSet, x_forgo0, x_lcgo0, x_while, x_par, x_sortK, br_t, br_f, isB_bl, isI_int, isN_some, slo_some, atL_lst, ix_t, ix_l, ix_n, dAdd_ii, dAdd_ss, dAdd_tt, dAdd_ll, dMinus_ii, dMul_ii, dMod_ii, dFdiv_ii, dPow_ii, dShl_ii, dNeg_i, dIadd_ii, dLt_ii, dLe_ii, dGt_ii, dGe_ii, ltE_ii, ltE_ss, srcD, isi_i, isi_s, isi_b, isi_n, isi_t, isi_nt, isi_l, isi2_i, isi2_s, isi2_b, isi2_n, isi2_t, isi2_nt, isi2_l, inon_n, inon_i, inon_s, inon_b, inon_t, inon_l, inon_r, dEq_ii, dNe_ii, dEq_ss, dNe_ss, dEq_bb, dNe_bb, dIs_n, dIsNot_n, dMax2_ii, dMin2_ii, dTuple_t, dTuple_l, dList_t, dList_l, dSl_t, dSl_l, dSl_s, newL_f, newL_t, app_r, int_b, int_i, strI_i, strX_i, strX_s, startD, wipeD, setAll, permL, List.filterMap, List.map_cons, List.map_nil, List.length_cons, List.length_nil, List.replicate, List.cons_append, List.nil_append, List.append_nil, List.getElem?_cons_zero, List.getElem?_cons_succ, List.set_cons_zero, List.set_cons_succ, List.map, Nat.zero_add, Nat.reduceAdd, Nat.reduceSub, Nat.sub_self, Nat.succ_sub_succ_eq_sub] | simp only [ofString_inj, String.reduceEq, at_0, at_1, at_2, at_3, at_4, at_5, isN_some, isBB_bl, isB_bl, br_t, br_f, br_not, br_and, br_or, br_dec, ix_r, len_tup, len_lst, len_nt, ltE_key, gup_gup, gup_same, starD_one, cut1, cut2, kt1, kt2, kt3, kt4, kt5, kt6, isTy, String.reduceBEq, Bool.or_false, Bool.false_or, Bool.true_or, Bool.or_true, Bool.and_false, Bool.false_and, Bool.true_and, Bool.and_true, Bool.not_true, Bool.not_false, decide_true, decide_false, eq_self_iff_true, Bool.false_eq_true, Int.reduceAdd, Int.add_zero, if_true, if_false, true_and, and_true] | walk_at "x" | with_reducible refine kont_go ?_ | with_reducible refine rt_sub (by assumption) ?_ | with_reducible refine rt_lst (by assumption) ?_ | with_reducible refine rt_drop (by assumption) ?_ | with_reducible refine rt_keep (by assumption) (by assumption) ?_ | with_reducible refine rt_same ?_ | (refine fun (p : Addr) (_ : _ = none) => ?_) | refine join_gor gup_same rfl (by walk_at "side") ?_ | with_reducible refine lc_cons ?_ | with_reducible refine for_cons ?_ | refine join_go rfl (by walk_at "side") ?_ | refine And.intro (by first | with_reducible assumption | omega | exact mty_up | exact True.intro | (simp only [List.mem_cons, ofString_inj, String.reduceEq, true_or, or_true, List.length_map]; done) | with_reducible exact (rfl : (_ : Nat) = _) | exact (rfl : (_ : Option String) = _) | (refine small_line ?_; omega) | (walk_at "ll"; first | omega | (refine small_line ?_; omega) | fail) | (exact log_small (by omega)) | fail) ?_ | fail))
local macro_rules | `(tactic| walk_at "ll") => `(tactic| simp only [List.length_map, List.length_append, List.length_cons, List.length_nil, List.map_cons, List.map_nil, List.sum_cons, List.sum_nil, len_app, rng_length, ll_0, ll_1, ll_2, ll_3, ll_4, ll_5, ll_6, ll_7, ll_8, ll_9, ll_10, ll_11, ll_12, ll_13, ll_14, ll_15, ll_16, ll_17, ll_18, ll_19, ll_20, ll_21, ll_22, ll_23, ll_24, ll_25, ll_26, ll_27, ll_28, ll_29, ll_30, ll_31, ll_32, ll_33, ll_34, ll_35, ll_36, ll_37, ll_38, ll_39, ll_40, ll_41, ll_42, ll_43, ll_44, ll_45, ll_46, ll_47, ll_48, ll_49, ll_50, ll_51, ll_52, ll_53, ll_54])
/-! ### what a refusal is told as -/
theorem isE_int {K : PySem.W.Frag} {G : Gp} {R : DK} {i : Int} {d : D} : dIsiE K [.int i, d] G R = dIsiX [.int i, d] G R := rfl
theorem row_short : ∀ k : Fin 1001, (((k.val : Nat) : Int)).natAbs.log2 < 1920 ∧ (Str.ofString (toString ((k.val : Nat) : Int))).length ≤ 4 := by decide +kernel
def sp__law_word_of (K : PySem.W.Frag) (a : Ad) : DSp := fun ds G R => ∃ (p : Addr) (r : Int), ds = [.ref p] ∧ G p = some (.ex (.ref a.x_NoText) [("row", .int r)]) ∧ 0 ≤ r ∧ r ≤ 1000 ∧ R (.str ("NoText" ++ numZ r)) G
local macro_rules | `(tactic| walk_at "x") => `(tactic| first
  | dsimp only [x_xfK, isE_int]
  | fail)
theorem ok__law_word_of {P : Program} {w : World} {K : PySem.W.Frag} {mg : Str → Option Value} {base : Heap} {a : Ad} (T : Tx w K mg a) : FnQ P w K mg base 1 a.f__law_word_of a.fd__law_word_of ["caught"] (sp__law_word_of K a) := by
  refine fun_okQ T.F__law_word_of sc__law_word_of (fun ds G R h => ?_) (fun cdv A outer s H hr => ⟨_, (qss_cons (qs_if (QW.pt (qw_or (qt_not (qt_val (qe_callB cd_isiE rfl T.n_isinstance (by decide +kernel) (qa_cons (qv 0) (qa_cons (qe_glob (d := .ref a.x_NoText) (v := .ref a.x_NoText) rfl T.gx_NoText rfl (fun _ _ => RD.ref _)) qa_nil))))) (qw_or (qt_not (qt_val (qe_callB cd_isiE rfl T.n_isinstance (by decide +kernel) (qa_cons (qv 0) (qa_cons (qe_ty (n := "ValueError") rfl T.n_ValueError (by decide +kernel)) qa_nil))))) (qw_or1 (qt_val (qe_callB cd_isiE rfl T.n_isinstance (by decide +kernel) (qa_cons (qe_xfK T.xf_NoText T.no_NoText (qv 0)) (qa_cons (qe_ty (n := "bool") rfl T.n_bool (by decide +kernel)) qa_nil))))))))
      (qss_one (qs_ret qe_str))
      qss_nil)
      (qss_cons (qs_if (qt_val (qe_callB cd_isiE rfl T.n_isinstance (by decide +kernel) (qa_cons (qv 0) (qa_cons (qe_tup (qa_cons (qe_glob (d := .ref a.x_NoCells) (v := .ref a.x_NoCells) rfl T.gx_NoCells rfl (fun _ _ => RD.ref _)) (qa_cons (qe_glob (d := .ref a.x_NoLoft) (v := .ref a.x_NoLoft) rfl T.gx_NoLoft rfl (fun _ _ => RD.ref _)) (qa_cons (qe_glob (d := .ref a.x_NoName) (v := .ref a.x_NoName) rfl T.gx_NoName rfl (fun _ _ => RD.ref _)) (qa_cons (qe_glob (d := .ref a.x_NoRoom) (v := .ref a.x_NoRoom) rfl T.gx_NoRoom rfl (fun _ _ => RD.ref _)) (qa_cons (qe_glob (d := .ref a.x_NoRow) (v := .ref a.x_NoRow) rfl T.gx_NoRow rfl (fun _ _ => RD.ref _)) (qa_cons (qe_glob (d := .ref a.x_NotStill) (v := .ref a.x_NotStill) rfl T.gx_NotStill rfl (fun _ _ => RD.ref _)) (qa_cons (qe_glob (d := .ref a.x_TooMany) (v := .ref a.x_TooMany) rfl T.gx_TooMany rfl (fun _ _ => RD.ref _)) qa_nil)))))))) qa_nil))))
      (qss_one (qs_ret qe_str))
      qss_nil)
      (qss_one (qs_ret (qe_op (od_add false) qe_str (qe_callTy cd_strX rfl T.n_str (by decide +kernel) (qa_cons (qe_xfK T.xf_NoText T.no_NoText (qv 0)) qa_nil))))))), fun ds G R h => ?_⟩)
  · obtain ⟨p, r, rfl, _⟩ := h; rfl
  · obtain ⟨p, r, rfl, eG, hr0, hr1, h⟩ := h
    walk_at "go"
    refine isE_one eG T.ec_NoText rfl T.ki_NoText_NoText ?_
    walk_at "go"
    refine isE_one eG T.ec_NoText rfl T.ki_NoText_ValueError ?_
    walk_at "go"
    refine ⟨p, _, _, rfl, eG, rfl, ?_⟩
    walk_at "go"
    refine isE_tup eG T.ec_NoText rfl (kit_any1 T.ki_NoText_NoCells (kit_any1 T.ki_NoText_NoLoft (kit_any1 T.ki_NoText_NoName (kit_any1 T.ki_NoText_NoRoom (kit_any1 T.ki_NoText_NoRow (kit_any1 T.ki_NoText_NotStill (kit_any1 T.ki_NoText_TooMany kit_any0))))))) ?_
    walk_at "go"
    refine ⟨p, _, _, rfl, eG, rfl, ?_⟩
    walk_at "go"
    obtain ⟨q1, q2⟩ := row_short ⟨r.toNat, by omega⟩
    dsimp only at q1 q2
    rw [show ((r.toNat : Nat) : Int) = r by omega] at q1 q2
    exact ⟨q1, by rw [sizeLine_eq]; exact Nat.le_trans (Nat.add_le_add_left q2 _) (by decide), rt_same h⟩
/-! ### what the program tells of a text -/
def sp__law_told (a : Ad) : DSp := fun ds G R => ∃ z, ds = [.str z] ∧ z.length ≤ 600 ∧ pyD (.str z) = true ∧ (∀ b names hh al mo c, MachP b names hh al mo c → z = mtxt b names hh al mo c → R (machD b names hh al mo c) G) ∧ (NoMach z → R (.str "NoText1") G)
local macro_rules | `(tactic| walk_at "x") => `(tactic| first
  | dsimp only [x_tryH, x_callX]
  | fail)
theorem ok__law_told {P : Program} {w : World} {K : PySem.W.Frag} {mg : Str → Option Value} {base : Heap} {a : Ad} (T : Tx w K mg a) : FnD P w K mg base 5 a.f__law_told a.fd__law_told ["line"] (sp__law_told a) := by
  refine fun_okD T.F__law_told sc__law_told (fun ds G R h => ?_) (fun cdv A outer s H hr => ⟨_, (qss_cons (qs_set (i := 1) sc__law_told.nd rfl (.inl rfl) qe_non)
      (qss_cons (qs_tryHot (i := 2) rfl rfl rfl sc__law_told.nd rfl rfl ⟨rfl, by decide, .inl T.gx_LoftError⟩ (fun _ _ _ tk hp => (ssx_one (sx_set (i := 1) sc__law_told.nd rfl (.inl rfl) (ex_callA (fun σ => L2N.passAt tk σ) (ok_read_machine T) (hr.mono (by omega)) rfl T.g_read_machine T.F_read_machine.kp T.b_read_machine (ax_of (qa_cons (qv 0) qa_nil))))))
      (fun _ _ => (qss_one (qs_set (i := 1) sc__law_told.nd rfl (.inl rfl) (qe_callQ (ok__law_word_of T) (roomH_suite (hr.mono (by omega))) rfl T.g__law_word_of T.F__law_word_of.kp T.b__law_word_of (qa_cons (qv 2) qa_nil))))))
      (qss_one (qs_ret (qv 1))))), fun ds G R h => ?_⟩)
  · obtain ⟨z, rfl, _⟩ := h; rfl
  · obtain ⟨z, rfl, hl, hpy, h1, h2⟩ := h
    walk_at "go"
    refine ⟨z, rfl, hl, hpy, fun b names hh al mo c M e => ?_, fun hno => ?_⟩
    · have hm := h1 b names hh al mo c M e
      walk_at "go"
      exact hm
    · have hn := h2 hno
      refine subX_same (hot_go T.xm_NoText_LoftError fun p np => ?_)
      have sb : DL.Sub G (gup G p (.ex (.ref a.x_NoText) [("row", .int 1)])) := DL.Sub.new np
      have eG : gup G p (.ex (.ref a.x_NoText) [("row", .int 1)]) p = some (.ex (.ref a.x_NoText) [("row", .int 1)]) := gup_same
      generalize gup G p (.ex (.ref a.x_NoText) [("row", .int 1)]) = G1 at sb eG ⊢
      walk_at "go"
      refine ⟨p, 1, rfl, eG, by decide, by decide, ?_⟩
      walk_at "go"
      rw [show (("NoText" : Str) ++ numZ 1) = "NoText1" by decide +kernel]
      exact hn
end K15


set_option Elab.async false
set_option linter.all false
set_option maxRecDepth 100000
set_option maxHeartbeats 4000000
set_option autoImplicit false
namespace K15
open PySem PySem.Spec PyProof.Rows L2 DL
local macro_rules | `(tactic| walk_at "d") => `(tactic| dsimp only [dSeq, dNext, dIfS, dRet, dRetN, dAsg, dName, dVar, dC, dOp, dUn, dChain, dB, dAnd, dOr, dNot, dAndV, dOrV, dNotV, dIf, dNil, dCons, dTup, dLst, newL, dCallB, dCall, dCallK, dDrop, dAug, dAugS, dSub, dM, dM0, dSlice, dNoPart, dPart, dLc, dYes, dFor, dIter, dRng1, dEnum, dZipM, srcD, dStar, dInK, dIxK, dLenSet, dRev,
  startD, wipeD, setAll, dNames, List.map_cons, List.map_nil, List.length_cons, List.length_nil, List.replicate, List.cons_append, List.nil_append, List.append_nil, List.getElem?_cons_zero, List.getElem?_cons_succ, List.set_cons_zero, List.set_cons_succ, List.map, Nat.zero_add, Nat.reduceAdd, Nat.reduceSub, Nat.sub_self, Nat.succ_sub_succ_eq_sub])
local macro_rules | `(tactic| walk_at "o") => `(tactic| simp only [dAdd_ii, dAdd_ss, dAdd_tt, dAdd_ll, dMinus_ii, dMul_ii, dMod_ii, dFdiv_ii, dPow_ii, dShl_ii, dNeg_i, dIadd_ii, dLt_ii, dLe_ii, dGt_ii, dGe_ii, dEq_ii, dNe_ii, dEq_ss, dNe_ss, dEq_bb, dNe_bb, dIs_n, dIsNot_n, dMax2_ii, dMin2_ii, dTuple_t, dTuple_l, dList_t, dList_l, dIx_t, dIx_l, dIx_s, dSl_t, dSl_l, dSl_s, newL_f, len_tup, len_lst])
local macro_rules | `(tactic| walk_at "w") => `(tactic| dsimp only [x_var, x_c, x_op, x_un, x_b, x_and, x_or, x_not, x_chain, x_andV, x_orV, x_notV, x_if, x_nil, x_cons, x_tup, x_lst0, x_lst1, x_callB, x_call, x_callK, x_next, x_seq, x_break, x_cont, x_drop, x_ret, x_ifS, x_asg, x_name, x_names, x_sub, x_aug, x_augS, x_for, x_lc0, x_lc1, x_yes, x_noPart, x_part, x_slice, x_iter, it_t, it_l, it_n, it_s, it_r, x_rng1, x_enum, x_rev, x_m, x_m0, x_mX, x_zip, x_star_t, x_star_l, x_lenSet, x_forgo0, x_lcgo0, x_while, x_par, x_sortK,
  br_t, br_f, isB_bl, isI_int, isN_some, slo_some, atL_lst, ix_t, ix_l, ix_n,
  dAdd_ii, dAdd_ss, dAdd_tt, dAdd_ll, dMinus_ii, dMul_ii, dMod_ii, dFdiv_ii, dPow_ii, dShl_ii, dNeg_i, dIadd_ii, dLt_ii, dLe_ii, dGt_ii, dGe_ii, ltE_ii, ltE_ss, srcD, isi_i, isi_s, isi_b, isi_n, isi_t, isi_nt, isi_l, isi2_i, isi2_s, isi2_b, isi2_n, isi2_t, isi2_nt, isi2_l, inon_n, inon_i, inon_s, inon_b, inon_t, inon_l, inon_r, dEq_ii, dNe_ii, dEq_ss, dNe_ss, dEq_bb, dNe_bb, dIs_n, dIsNot_n, dMax2_ii, dMin2_ii, dTuple_t, dTuple_l, dList_t, dList_l, dSl_t, dSl_l, dSl_s, newL_f, newL_t, app_r, int_b, int_i, strI_i, strX_i, strX_s,
  startD, wipeD, setAll, permL, List.filterMap, List.map_cons, List.map_nil, List.length_cons, List.length_nil, List.replicate, List.cons_append, List.nil_append, List.append_nil, List.getElem?_cons_zero, List.getElem?_cons_succ, List.set_cons_zero, List.set_cons_succ, List.map, Nat.zero_add, Nat.reduceAdd, Nat.reduceSub, Nat.sub_self, Nat.succ_sub_succ_eq_sub])
local macro_rules | `(tactic| walk_at "v") => `(tactic| simp only [ofString_inj, String.reduceEq, at_0, at_1, at_2, at_3, at_4, at_5, isN_some, isBB_bl, isB_bl, br_t, br_f, br_not, br_and, br_or, br_dec, ix_r, len_tup, len_lst, len_nt, ltE_key, gup_gup, gup_same, starD_one, cut1, cut2, kt1, kt2, kt3, kt4, kt5, kt6, isTy, String.reduceBEq, Bool.or_false, Bool.false_or, Bool.true_or, Bool.or_true, Bool.and_false, Bool.false_and, Bool.true_and, Bool.and_true, Bool.not_true, Bool.not_false, decide_true, decide_false, eq_self_iff_true, Bool.false_eq_true, Int.reduceAdd, Int.add_zero, if_true, if_false, true_and, and_true])
local macro_rules | `(tactic| walk_at "side") => `(tactic| first | with_reducible assumption | omega | exact mty_up | exact True.intro | (simp only [List.mem_cons, ofString_inj, String.reduceEq, true_or, or_true, List.length_map]; done) | with_reducible exact (rfl : (_ : Nat) = _) | exact (rfl : (_ : Option String) = _) | (refine small_line ?_; omega) | (walk_at "ll"; first | omega | (refine small_line ?_; omega) | fail) | (exact log_small (by omega)) | fail)
local macro_rules | `(tactic| walk_at "x") => `(tactic| fail)
local macro_rules | `(tactic| walk_at "go") => `(tactic| repeat' (first | dsimp only [x_var, x_c, x_op, x_un, x_b, x_and, x_or, x_not, x_chain, x_andV, x_orV, x_notV, x_if, x_nil, x_cons, x_tup, x_lst0, x_lst1, x_callB, x_call, x_callK, x_next, x_seq, x_break, x_cont, x_drop, x_ret, x_ifS, x_asg, x_name, x_names, x_sub, x_aug, x_augS, x_for, x_lc0, x_lc1, x_yes, x_noPart, x_part, x_slice, x_iter, it_t, it_l, it_n, it_s, it_r, x_rng1, x_enum, x_rev, x_m, x_m0, x_mX, x_zip, x_star_t, x_star_l, x_lenSet, x_forgo0, x_lcgo0, x_while, x_par, x_sortK, br_t, br_f, isB_bl, isI_int, isN_some, slo_some, atL_lst, ix_t, ix_l, ix_n, dAdd_ii, dAdd_ss, dAdd_tt, dAdd_ll, dMinus_ii, dMul_ii, dMod_ii, dFdiv_ii, dPow_ii, dShl_ii, dNeg_i, dIadd_ii, dLt_ii, dLe_ii, dGt_ii, dGe_ii, ltE_ii, ltE_ss, srcD, isi_i, isi_s, isi_b, isi_n, isi_t, isi_nt, isi_l, isi2_i, isi2_s, isi2_b, isi2_n, isi2_t, isi2_nt, isi2_l, inon_n, inon_i, inon_s, inon_b, inon_t, inon_l, inon_r, dEq_ii, dNe_ii, dEq_ss, dNe_ss, dEq_bb, dNe_bb, dIs_n, dIsNot_n, dMax2_ii, dMin2_ii, dTuple_t, dTuple_l, dList_t, dList_l, dSl_t, dSl_l, dSl_s, newL_f, newL_t, app_r, int_b, int_i, strI_i, strX_i, strX_s, startD, wipeD, setAll, permL, List.filterMap, List.map_cons, List.map_nil, List.length_cons, List.length_nil, List.replicate, List.cons_append, List.nil_append, List.append_nil, List.getElem?_cons_zero, List.getElem?_cons_succ, List.set_cons_zero, List.set_cons_succ, List.map, Nat.zero_add, Nat.reduceAdd, Nat.reduceSub, Nat.sub_self, Nat.succ_sub_succ_eq_sub] | simp only [ofString_inj, String.reduceEq, at_0, at_1, at_2, at_3, at_4, at_5, isN_some, isBB_bl, isB_bl, br_t, br_f, br_not, br_and, br_or, br_dec, ix_r, len_tup, len_lst, len_nt, ltE_key, gup_gup, gup_same, starD_one, cut1, cut2, kt1, kt2, kt3, kt4, kt5, kt6, isTy, String.reduceBEq, Bool.or_false, Bool.false_or, Bool.true_or, Bool.or_true, Bool.and_false, Bool.false_and, Bool.true_and, Bool.and_true, Bool.not_true, Bool.not_false, decide_true, decide_false, eq_self_iff_true, Bool.false_eq_true, Int.reduceAdd, Int.add_zero, if_true, if_false, true_and, and_true] | walk_at "x" | with_reducible refine kont_go ?_ | with_reducible refine rt_sub (by assumption) ?_ | with_reducible refine rt_lst (by assumption) ?_ | with_reducible refine rt_drop (by assumption) ?_ | with_reducible refine rt_keep (by assumption) (by assumption) ?_ | with_reducible refine rt_same ?_ | (refine fun (p : Addr) (_ : _ = none) => ?_) | refine join_gor gup_same rfl (by walk_at "side") ?_ | with_reducible refine lc_cons ?_ | with_reducible refine for_cons ?_ | refine join_go rfl (by walk_at "side") ?_ | refine And.intro (by first | with_reducible assumption | omega | exact mty_up | exact True.intro | (simp only [List.mem_cons, ofString_inj, String.reduceEq, true_or, or_true, List.length_map]; done) | with_reducible exact (rfl : (_ : Nat) = _) | exact (rfl : (_ : Option String) = _) | (refine small_line ?_; omega) | (walk_at "ll"; first | omega | (refine small_line ?_; omega) | fail) | (exact log_small (by omega)) | fail) ?_ | fail))
local macro_rules | `(tactic| walk_at "ll") => `(tactic| simp only [List.length_map, List.length_append, List.length_cons, List.length_nil, List.map_cons, List.map_nil, List.sum_cons, List.sum_nil, len_app, rng_length, ll_0, ll_1, ll_2, ll_3, ll_4, ll_5, ll_6, ll_7, ll_8, ll_9, ll_10, ll_11, ll_12, ll_13, ll_14, ll_15, ll_16, ll_17, ll_18, ll_19, ll_20, ll_21, ll_22, ll_23, ll_24, ll_25, ll_26, ll_27, ll_28, ll_29, ll_30, ll_31, ll_32, ll_33, ll_34, ll_35, ll_36, ll_37, ll_38, ll_39, ll_40, ll_41, ll_42, ll_43, ll_44, ll_45, ll_46, ll_47, ll_48, ll_49, ll_50, ll_51, ll_52, ll_53, ll_54])
theorem low_lt (c : Nat) : (sLt ⟨#[c]⟩ "a" || sLt "z" ⟨#[c]⟩) = !low c := by
  have e1 : sLt ⟨#[c]⟩ "a" = decide (c < 97) := by
    unfold sLt
    rw [show (Str.cps "a").toList = [97] by decide +kernel]
    rw [Bool.eq_iff_iff]
    simp [List.cons_lt_cons_iff]
  have e2 : sLt "z" ⟨#[c]⟩ = decide (122 < c) := by
    unfold sLt
    rw [show (Str.cps "z").toList = [122] by decide +kernel]
    rw [Bool.eq_iff_iff]
    simp [List.cons_lt_cons_iff]
  rw [e1, e2, low, Bool.eq_iff_iff]
  simp
def sp__law_is_name : DSp := sp_is_name
theorem ok__law_is_name {P : Program} {w : World} {K : PySem.W.Frag} {mg : Str → Option Value} {base : Heap} {a : Ad} (T : Tx w K mg a) : FnD P w K mg base 1 a.f__law_is_name a.fd__law_is_name ["what"] sp__law_is_name := by
  refine fun_okD T.F__law_is_name sc__law_is_name (fun ds G R h => ?_) (fun cdv A outer s H hr => ⟨_, (qss_cons (qs_if (QW.pt (qw_or (qt_not (qt_val (qe_callB cd_isi rfl T.n_isinstance (by decide +kernel) (qa_cons (qv 0) (qa_cons (qe_ty (n := "str") rfl T.n_str (by decide +kernel)) qa_nil))))) (qw_or (qt_cmp od_lt (qe_callB cd_len rfl T.n_len (by decide +kernel) (qa_cons (qv 0) qa_nil)) qe_int (nomark _)) (qw_or1 (qt_cmp od_gt (qe_callB cd_len rfl T.n_len (by decide +kernel) (qa_cons (qv 0) qa_nil)) qe_int (nomark _))))))
      (qss_one (qs_ret qe_bl))
      qss_nil)
      (qss_one (qs_ret (qe_cmp (od_eq hr.units) (qe_lc false rfl sc__law_is_name.nd (qi_seq (qv 0)) (blkOk_by (own := [("sign", 1)]) (N := N__law_is_name) (sc := defScope s__law_is_name) (by decide +kernel)) (fun _ _ _ _ _ => (pg_name (i := 1) sc__law_is_name.nd rfl (.inl rfl))) (tg_name (i := 1) (by decide)) (fun _ _ _ _ _ => (qts_one (QW.pt (qw_or (qt_cmp od_lt (qv 1) qe_str (nomark _)) (qw_or1 (qt_cmp od_gt (qv 1) qe_str (nomark _))))))) (fun _ _ _ _ _ => (qv 1))) (qe_lst false qa_nil) (nomark _))))), fun ds G R h => ?_⟩)
  · unfold sp__law_is_name sp_is_name at h; split at h; rfl; exact h.elim
  · unfold sp__law_is_name sp_is_name at h
    split at h
    · rename_i x
      obtain ⟨hx, h⟩ := h
      walk_at "d"
      rw [isi_str hx]
      cases x with
      | str z =>
        obtain ⟨hz, hzc⟩ := pl_str.mp hx
        simp only [isStr, Bool.not_true, len_str hz, dLt, dGt, dOrd]
        unfold isName nameOk at h
        simp only at h
        by_cases e1 : 1 ≤ z.length
        · have e1' : decide ((z.length : Int) < 1) = false := decide_eq_false (by omega)
          rw [decide_eq_true e1] at h
          simp only [e1']
          by_cases e2 : z.length ≤ 8
          · have e2' : decide ((8 : Int) < (z.length : Int)) = false := decide_eq_false (by omega)
            rw [decide_eq_true e2] at h
            simp only [e2']
            refine ⟨by unfold signsD; rw [List.length_map, Array.length_toList]; exact small_line hz, ?_⟩
            refine lc_filter (fun d => match d with | .str y => !(y.cps.toList.all low) | _ => false) id True.intro _ [] (fun x hx Q Q0 q q0 => ?_) _ ?_
            · unfold signsD at hx
              obtain ⟨c, hc, rfl⟩ := List.mem_map.mp hx
              have el : ([c].all low) = low c := by simp
              have q : (!([c].all low)) = true → Q (.str ⟨#[c]⟩) G := q
              have q0 : (!([c].all low)) = false → Q0 G := q0
              have eo := low_lt c
              walk_at "d"
              simp only [dOrd]
              rw [el] at q q0
              cases e3 : sLt ⟨#[c]⟩ "a" with
              | true =>
                rw [e3, Bool.true_or] at eo
                exact q eo.symm
              | false =>
                rw [e3, Bool.false_or] at eo
                cases e4 : sLt "z" ⟨#[c]⟩ with
                | true => rw [e4] at eo; exact q eo.symm
                | false => rw [e4] at eo; exact q0 eo.symm
            · refine ⟨Nat.zero_le _, ?_⟩
              have hall : ∀ d ∈ (signsD z).filter (fun d => match d with | .str y => !(y.cps.toList.all low) | _ => false), pyD d = true ∧ depD d = 0 := by
                intro d hd
                obtain ⟨hd, _⟩ := List.mem_filter.mp hd
                unfold signsD at hd
                obtain ⟨c, hc, rfl⟩ := List.mem_map.mp hd
                refine ⟨?_, rfl⟩
                simp only [pyD]
                show [c].all _ = true
                simpa using hzc c hc
              rw [List.nil_append, List.map_id]
              rw [eq_pure (by simp only [pyD]; exact pyDs_of fun d hd => (hall d hd).1) (by simp only [pyD, pyDs]) (by simp only [depD]; have := depDs_le (n := 0) fun d hd => Nat.le_of_eq (hall d hd).2; omega) (by decide)]
              refine ret_same ?_
              have ee : eqD (.lst ((signsD z).filter (fun d => match d with | .str y => !(y.cps.toList.all low) | _ => false))) (.lst []) = z.cps.toList.all low := by
                simp only [eqD]
                unfold signsD
                rw [List.filter_map]
                have e5 : ((fun d => match d with | D.str y => !(y.cps.toList.all low) | _ => false) ∘ fun c => D.str ⟨#[c]⟩) = fun c => !low c := by
                  funext c
                  show (!([c].all low)) = !low c
                  simp
                rw [e5]
                generalize z.cps.toList = l
                induction l with
                | nil => rfl
                | cons c l ih =>
                  by_cases hc : low c = true
                  · simp [hc] at ih ⊢
                    exact ih
                  · simp [hc, eqDs]
              rw [ee]
              simpa using h
          · have e2' : decide ((8 : Int) < (z.length : Int)) = true := decide_eq_true (by omega)
            rw [decide_eq_false e2] at h
            simp only [e2']
            exact ret_same (by simpa using h)
        · have e1' : decide ((z.length : Int) < 1) = true := decide_eq_true (by omega)
          rw [decide_eq_false e1] at h
          simp only [e1']
          exact ret_same (by simpa using h)
      | _ => simp only [isStr, Bool.not_false]; exact ret_same h
    · exact h.elim
/-! ### the law's own reading of a number -/
def numT (z : Str) : Bool := decide (1 ≤ z.length) && decide (z.length ≤ 9) && (cds z).all dig && decide (z = Str.ofString (toString ((NumText.digitsVal (cds z) : Nat) : Int)))
def numN (z : Str) : Int := if numT z = true then ((NumText.digitsVal (cds z) : Nat) : Int) else -1
theorem numN_back {z : Str} (h : 0 ≤ numN z) : z = numZ (numN z) := by
  unfold numN at h ⊢
  by_cases h1 : numT z = true
  · rw [if_pos h1] at h ⊢
    unfold numT at h1
    simp only [Bool.and_eq_true, decide_eq_true_eq] at h1
    exact h1.2
  · rw [if_neg h1] at h; omega
theorem numN_goodK : ∀ k : Fin 301, numN (numZ ((k.val : Nat) : Int)) = k.val := by decide +kernel
theorem numN_num {z : Int} (h0 : 0 ≤ z) (h1 : z ≤ 300) : numN (numZ z) = z := by
  have a := numN_goodK ⟨z.toNat, by omega⟩
  dsimp only at a
  rw [show ((z.toNat : Nat) : Int) = z by omega] at a
  exact a
theorem fig_lt (c : Nat) : (sLt ⟨#[c]⟩ "0" || sLt "9" ⟨#[c]⟩) = !dig c := by
  have e1 : sLt ⟨#[c]⟩ "0" = decide (c < 48) := by
    unfold sLt
    rw [show (Str.cps "0").toList = [48] by decide +kernel]
    rw [Bool.eq_iff_iff]
    simp [List.cons_lt_cons_iff]
  have e2 : sLt "9" ⟨#[c]⟩ = decide (57 < c) := by
    unfold sLt
    rw [show (Str.cps "9").toList = [57] by decide +kernel]
    rw [Bool.eq_iff_iff]
    simp [List.cons_lt_cons_iff]
  rw [e1, e2, dig, Bool.eq_iff_iff]
  simp
theorem figs_all (l : List Nat) : decide (l.filterMap (fun c => if dig c = true then none else some (D.str ⟨#[c]⟩)) ≠ []) = !l.all dig := by
  induction l with
  | nil => rfl
  | cons c l ih =>
    by_cases hc : dig c = true
    · simpa [List.filterMap_cons, hc] using ih
    · simp [List.filterMap_cons, hc]
theorem digs_le : ∀ (l : List Nat) (acc : Nat), l.all dig = true → l.foldl (fun acc c => acc * 10 + (c - 48)) acc + 1 ≤ (acc + 1) * 10 ^ l.length
  | [], acc, _ => by simp
  | c :: l, acc, h => by
    simp only [List.all_cons, Bool.and_eq_true, dig, decide_eq_true_eq] at h
    have := digs_le l (acc * 10 + (c - 48)) (by simpa only [dig] using h.2)
    rw [List.foldl_cons, List.length_cons, Nat.pow_succ]
    refine Nat.le_trans this ?_
    have h2 : acc * 10 + (c - 48) + 1 ≤ (acc + 1) * 10 := by omega
    calc _ ≤ ((acc + 1) * 10) * 10 ^ l.length := Nat.mul_le_mul_right _ h2
      _ = _ := by rw [Nat.mul_assoc, Nat.mul_comm 10]
theorem digs_log {z : Str} (h : (cds z).all dig = true) (h9 : z.length ≤ 9) : ((NumText.digitsVal (cds z) : Nat) : Int).natAbs.log2 < 1920 := by
  have h1 := digs_le (cds z) 0 h
  have h2 : (0 + 1) * 10 ^ (cds z).length ≤ 10 ^ 9 := by
    rw [Nat.zero_add, Nat.one_mul, cds_len]
    exact Nat.pow_le_pow_right (by decide) h9
  have h3 : NumText.digitsVal (cds z) < 10 ^ 9 := by
    show (cds z).foldl (fun acc c => acc * 10 + (c - 48)) 0 < _
    omega
  rw [Int.natAbs_natCast]
  by_cases h0 : NumText.digitsVal (cds z) = 0
  · rw [h0]; decide
  · exact (Nat.log2_lt h0).mpr (Nat.lt_of_lt_of_le h3 (Nat.le_trans (by decide : 10 ^ 9 ≤ 2 ^ 30) (Nat.pow_le_pow_right (by decide) (by decide))))
def sp__law_number : DSp := fun ds G R => ∃ (z : Str), ds = [.str z] ∧ z.length ≤ 1000 ∧ pyD (.str z) = true ∧ R (.int (numN z)) G
theorem ok__law_number {P : Program} {w : World} {K : PySem.W.Frag} {mg : Str → Option Value} {base : Heap} {a : Ad} (T : Tx w K mg a) : FnD P w K mg base 1 a.f__law_number a.fd__law_number ["word"] sp__law_number := by
  refine fun_okD T.F__law_number sc__law_number (fun ds G R h => ?_) (fun cdv A outer s H hr => ⟨_, (qss_cons (qs_if (QW.pt (qw_or (qt_cmp (od_eq hr.units) (qv 0) qe_str (nomark _)) (qw_or (qt_cmp od_gt (qe_callB cd_len rfl T.n_len (by decide +kernel) (qa_cons (qv 0) qa_nil)) qe_int (nomark _)) (qw_or1 (qt_cmp (od_ne hr.units) (qe_lc false rfl sc__law_number.nd (qi_seq (qv 0)) (blkOk_by (own := [("sign", 1)]) (N := N__law_number) (sc := defScope s__law_number) (by decide +kernel)) (fun _ _ _ _ _ => (pg_name (i := 1) sc__law_number.nd rfl (.inl rfl))) (tg_name (i := 1) (by decide)) (fun _ _ _ _ _ => (qts_one (QW.pt (qw_or (qt_cmp (od_ltE (room100 hr)) (qv 1) qe_str (nomark _)) (qw_or1 (qt_cmp od_gt (qv 1) qe_str (nomark _))))))) (fun _ _ _ _ _ => (qv 1))) (qe_lst false qa_nil) (nomark _))))))
      (qss_one (qs_ret (qe_un od_neg qe_int)))
      qss_nil)
      (qss_one (qs_ret (qe_ifExp (qt_cmp (od_eq hr.units) (qv 0) (qe_callTy cd_strX rfl T.n_str (by decide +kernel) (qa_cons (qe_callTy cd_intS rfl T.n_int (by decide +kernel) (qa_cons (qv 0) qa_nil)) qa_nil)) (nomark _)) (qe_callTy cd_intS rfl T.n_int (by decide +kernel) (qa_cons (qv 0) qa_nil)) (qe_un od_neg qe_int))))), fun ds G R h => ?_⟩)
  · obtain ⟨z, rfl, _⟩ := h; rfl
  · obtain ⟨z, rfl, hl, hpy, h⟩ := h
    have hln : z.length = (cds z).length := (cds_len z).symm
    have hsg : signsD z = (cds z).map fun c => D.str ⟨#[c]⟩ := rfl
    unfold numN numT at h
    by_cases h1 : 1 ≤ z.length
    · by_cases h9 : z.length ≤ 9
      · walk_at "go"
        have hz0 : ¬ z = Str.ofString "" := fun e => by rw [e] at h1; exact absurd h1 (by decide)
        rw [if_neg hz0]
        walk_at "go"
        rw [if_neg (by omega), hsg]
        refine ⟨small_line (by rw [List.length_map]; omega), ?_⟩
        refine lc_flt (gd := fun _ => True) (fun c : Nat => D.str ⟨#[c]⟩) (fun c => if dig c = true then none else some (D.str ⟨#[c]⟩)) True.intro (cds z) [] (fun c _ N4 acc q => ?_) _ ?_
        · have eo := fig_lt c
          have e0 : sLt ⟨#[c]⟩ (Str.ofString "0") = sLt ⟨#[c]⟩ "0" := rfl
          have e9 : sLt (Str.ofString "9") ⟨#[c]⟩ = sLt "9" ⟨#[c]⟩ := rfl
          walk_at "go"
          rw [e0]
          cases h3 : sLt ⟨#[c]⟩ "0" with
          | true =>
            rw [h3, Bool.true_or] at eo
            have hd : ¬ dig c = true := by cases hd : dig c <;> simp [hd] at eo ⊢
            rw [if_neg hd] at q
            exact q
          | false =>
            rw [h3, Bool.false_or] at eo
            rw [br_f]
            show match sLt (Str.ofString "9") ⟨#[c]⟩ with | true => _ | false => _
            rw [e9, eo]
            cases hd : dig c with
            | true =>
              rw [hd, if_pos rfl] at q
              simpa using q
            | false =>
              rw [hd, if_neg Bool.false_ne_true] at q
              exact q
        rw [List.nil_append]
        refine ⟨by decide, ?_⟩
        have hcp : ∀ c ∈ cds z, c < 1114112 := fun c hc => of_decide_eq_true (List.all_eq_true.mp (show (z.cps.toList.all fun c => decide (c < 1114112)) = true by simpa only [pyD] using hpy) c hc)
        have hel : ∀ d ∈ (cds z).filterMap (fun c => if dig c = true then none else some (D.str ⟨#[c]⟩)), pyD d = true ∧ depD d = 0 := by
          intro d hd
          obtain ⟨c, hc, e⟩ := List.mem_filterMap.mp hd
          split at e
          · cases e
          · cases e
            refine ⟨?_, rfl⟩
            simp only [pyD]
            simpa using hcp c hc
        rw [ne_empty (pyDs_of fun d hd => (hel d hd).1) (by have := depDs_le (n := 0) fun d hd => Nat.le_of_eq (hel d hd).2; omega), figs_all]
        cases ha : (cds z).all dig with
        | false =>
          rw [ha] at h
          simp only [Bool.and_false, Bool.false_and, if_neg Bool.false_ne_true] at h
          walk_at "go"
          exact h
        | true =>
          have ni := int_digits ha h1 (by omega)
          rw [ha, decide_eq_true h1, decide_eq_true h9] at h
          simp only [Bool.true_and, Bool.and_self] at h
          walk_at "go"
          refine intS_go ni (by omega) ?_
          rw [strX_i]
          refine ⟨digs_log ha h9, ?_⟩
          rw [dEq_ss, isB_bl]
          by_cases hz : z = Str.ofString (toString ((NumText.digitsVal (cds z) : Nat) : Int))
          · rw [decide_eq_true hz, if_pos rfl] at h
            rw [decide_eq_true hz, br_t]
            refine intS_go ni (by omega) ?_
            exact rt_same h
          · rw [decide_eq_false hz, if_neg Bool.false_ne_true] at h
            rw [decide_eq_false hz, br_f]
            exact rt_same h
      · rw [decide_eq_false h9] at h
        simp only [Bool.and_false, Bool.false_and, if_neg Bool.false_ne_true] at h
        walk_at "go"
        have hz0 : ¬ z = Str.ofString "" := fun e => by rw [e] at h1; exact absurd h1 (by decide)
        rw [if_neg hz0]
        walk_at "go"
        rw [if_pos (by omega)]
        exact rt_same h
    · rw [decide_eq_false h1] at h
      simp only [Bool.and_false, Bool.false_and, if_neg Bool.false_ne_true] at h
      walk_at "go"
      have hz0 : z = Str.ofString "" := cds_inj (by rw [show cds (Str.ofString "") = [] by decide +kernel]; exact List.eq_nil_of_length_eq_zero (by rw [cds_len]; omega))
      rw [if_pos hz0]
      exact rt_same h
theorem go_lawnum {z : Str} {G : Gp} {R : DK} (hl : z.length ≤ 1000) (hp : pyD (.str z) = true) (k : R (.int (numN z)) G) : sp__law_number [.str z] G R := ⟨z, rfl, hl, hp, k⟩
end K15


set_option Elab.async false
set_option linter.all false
set_option maxRecDepth 100000
set_option maxHeartbeats 4000000
set_option autoImplicit false
namespace K15
open PySem PySem.Spec PyProof.Rows L2 DL
local macro_rules | `(tactic| walk_at "d") => `(tactic| dsimp only [dSeq, dNext, dIfS, dRet, dRetN, dAsg, dName, dVar, dC, dOp, dUn, dChain, dB, dAnd, dOr, dNot, dAndV, dOrV, dNotV, dIf, dNil, dCons, dTup, dLst, newL, dCallB, dCall, dCallK, dDrop, dAug, dAugS, dSub, dM, dM0, dSlice, dNoPart, dPart, dLc, dYes, dFor, dIter, dRng1, dEnum, dZipM, srcD, dStar, dInK, dIxK, dLenSet, dRev,
  startD, wipeD, setAll, dNames, List.map_cons, List.map_nil, List.length_cons, List.length_nil, List.replicate, List.cons_append, List.nil_append, List.append_nil, List.getElem?_cons_zero, List.getElem?_cons_succ, List.set_cons_zero, List.set_cons_succ, List.map, Nat.zero_add, Nat.reduceAdd, Nat.reduceSub, Nat.sub_self, Nat.succ_sub_succ_eq_sub])
local macro_rules | `(tactic| walk_at "o") => `(tactic| simp only [dAdd_ii, dAdd_ss, dAdd_tt, dAdd_ll, dMinus_ii, dMul_ii, dMod_ii, dFdiv_ii, dPow_ii, dShl_ii, dNeg_i, dIadd_ii, dLt_ii, dLe_ii, dGt_ii, dGe_ii, dEq_ii, dNe_ii, dEq_ss, dNe_ss, dEq_bb, dNe_bb, dIs_n, dIsNot_n, dMax2_ii, dMin2_ii, dTuple_t, dTuple_l, dList_t, dList_l, dIx_t, dIx_l, dIx_s, dSl_t, dSl_l, dSl_s, newL_f, len_tup, len_lst])
local macro_rules | `(tactic| walk_at "w") => `(tactic| dsimp only [x_var, x_c, x_op, x_un, x_b, x_and, x_or, x_not, x_chain, x_andV, x_orV, x_notV, x_if, x_nil, x_cons, x_tup, x_lst0, x_lst1, x_callB, x_call, x_callK, x_next, x_seq, x_break, x_cont, x_drop, x_ret, x_ifS, x_asg, x_name, x_names, x_sub, x_aug, x_augS, x_for, x_lc0, x_lc1, x_yes, x_noPart, x_part, x_slice, x_iter, it_t, it_l, it_n, it_s, it_r, x_rng1, x_enum, x_rev, x_m, x_m0, x_mX, x_zip, x_star_t, x_star_l, x_lenSet, x_forgo0, x_lcgo0, x_while, x_par, x_sortK,
  br_t, br_f, isB_bl, isI_int, isN_some, slo_some, atL_lst, ix_t, ix_l, ix_n,
  dAdd_ii, dAdd_ss, dAdd_tt, dAdd_ll, dMinus_ii, dMul_ii, dMod_ii, dFdiv_ii, dPow_ii, dShl_ii, dNeg_i, dIadd_ii, dLt_ii, dLe_ii, dGt_ii, dGe_ii, ltE_ii, ltE_ss, srcD, isi_i, isi_s, isi_b, isi_n, isi_t, isi_nt, isi_l, isi2_i, isi2_s, isi2_b, isi2_n, isi2_t, isi2_nt, isi2_l, inon_n, inon_i, inon_s, inon_b, inon_t, inon_l, inon_r, dEq_ii, dNe_ii, dEq_ss, dNe_ss, dEq_bb, dNe_bb, dIs_n, dIsNot_n, dMax2_ii, dMin2_ii, dTuple_t, dTuple_l, dList_t, dList_l, dSl_t, dSl_l, dSl_s, newL_f, newL_t, app_r, int_b, int_i, strI_i, strX_i, strX_s,
  startD, wipeD, setAll, permL, List.filterMap, List.map_cons, List.map_nil, List.length_cons, List.length_nil, List.replicate, List.cons_append, List.nil_append, List.append_nil, List.getElem?_cons_zero, List.getElem?_cons_succ, List.set_cons_zero, List.set_cons_succ, List.map, Nat.zero_add, Nat.reduceAdd, Nat.reduceSub, Nat.sub_self, Nat.succ_sub_succ_eq_sub])
local macro_rules | `(tactic| walk_at "v") => `(tactic| simp only [ofString_inj, String.reduceEq, at_0, at_1, at_2, at_3, at_4, at_5, isN_some, isBB_bl, isB_bl, br_t, br_f, br_not, br_and, br_or, br_dec, ix_r, len_tup, len_lst, len_nt, ltE_key, gup_gup, gup_same, starD_one, cut1, cut2, kt1, kt2, kt3, kt4, kt5, kt6, isTy, String.reduceBEq, Bool.or_false, Bool.false_or, Bool.true_or, Bool.or_true, Bool.and_false, Bool.false_and, Bool.true_and, Bool.and_true, Bool.not_true, Bool.not_false, decide_true, decide_false, eq_self_iff_true, Bool.false_eq_true, Int.reduceAdd, Int.add_zero, if_true, if_false, true_and, and_true])
local macro_rules | `(tactic| walk_at "side") => `(tactic| first | with_reducible assumption | omega | exact mty_up | exact True.intro | (simp only [List.mem_cons, ofString_inj, String.reduceEq, true_or, or_true, List.length_map]; done) | with_reducible exact (rfl : (_ : Nat) = _) | exact (rfl : (_ : Option String) = _) | (refine small_line ?_; omega) | (walk_at "ll"; first | omega | (refine small_line ?_; omega) | fail) | (exact log_small (by omega)) | fail)
local macro_rules | `(tactic| walk_at "x") => `(tactic| fail)
local macro_rules | `(tactic| walk_at "go") => `(tactic| repeat' (first | dsimp only [x_var, x_c, x_op, x_un, x_b, x_and, x_or, x_not, x_chain, x_andV, x_orV, x_notV, x_if, x_nil, x_cons, x_tup, x_lst0, x_lst1, x_callB, x_call, x_callK, x_next, x_seq, x_break, x_cont, x_drop, x_ret, x_ifS, x_asg, x_name, x_names, x_sub, x_aug, x_augS, x_for, x_lc0, x_lc1, x_yes, x_noPart, x_part, x_slice, x_iter, it_t, it_l, it_n, it_s, it_r, x_rng1, x_enum, x_rev, x_m, x_m0, x_mX, x_zip, x_star_t, x_star_l, x_lenSet, x_forgo0, x_lcgo0, x_while, x_par, x_sortK, br_t, br_f, isB_bl, isI_int, isN_some, slo_some, atL_lst, ix_t, ix_l, ix_n, dAdd_ii, dAdd_ss, dAdd_tt, dAdd_ll, dMinus_ii, dMul_ii, dMod_ii, dFdiv_ii, dPow_ii, dShl_ii, dNeg_i, dIadd_ii, dLt_ii, dLe_ii, dGt_ii, dGe_ii, ltE_ii, ltE_ss, srcD, isi_i, isi_s, isi_b, isi_n, isi_t, isi_nt, isi_l, isi2_i, isi2_s, isi2_b, isi2_n, isi2_t, isi2_nt, isi2_l, inon_n, inon_i, inon_s, inon_b, inon_t, inon_l, inon_r, dEq_ii, dNe_ii, dEq_ss, dNe_ss, dEq_bb, dNe_bb, dIs_n, dIsNot_n, dMax2_ii, dMin2_ii, dTuple_t, dTuple_l, dList_t, dList_l, dSl_t, dSl_l, dSl_s, newL_f, newL_t, app_r, int_b, int_i, strI_i, strX_i, strX_s, startD, wipeD, setAll, permL, List.filterMap, List.map_cons, List.map_nil, List.length_cons, List.length_nil, List.replicate, List.cons_append, List.nil_append, List.append_nil, List.getElem?_cons_zero, List.getElem?_cons_succ, List.set_cons_zero, List.set_cons_succ, List.map, Nat.zero_add, Nat.reduceAdd, Nat.reduceSub, Nat.sub_self, Nat.succ_sub_succ_eq_sub] | simp only [ofString_inj, String.reduceEq, at_0, at_1, at_2, at_3, at_4, at_5, isN_some, isBB_bl, isB_bl, br_t, br_f, br_not, br_and, br_or, br_dec, ix_r, len_tup, len_lst, len_nt, ltE_key, gup_gup, gup_same, starD_one, cut1, cut2, kt1, kt2, kt3, kt4, kt5, kt6, isTy, String.reduceBEq, Bool.or_false, Bool.false_or, Bool.true_or, Bool.or_true, Bool.and_false, Bool.false_and, Bool.true_and, Bool.and_true, Bool.not_true, Bool.not_false, decide_true, decide_false, eq_self_iff_true, Bool.false_eq_true, Int.reduceAdd, Int.add_zero, if_true, if_false, true_and, and_true] | walk_at "x" | with_reducible refine kont_go ?_ | with_reducible refine rt_sub (by assumption) ?_ | with_reducible refine rt_lst (by assumption) ?_ | with_reducible refine rt_drop (by assumption) ?_ | with_reducible refine rt_keep (by assumption) (by assumption) ?_ | with_reducible refine rt_same ?_ | (refine fun (p : Addr) (_ : _ = none) => ?_) | refine join_gor gup_same rfl (by walk_at "side") ?_ | with_reducible refine lc_cons ?_ | with_reducible refine for_cons ?_ | refine join_go rfl (by walk_at "side") ?_ | refine And.intro (by first | with_reducible assumption | omega | exact mty_up | exact True.intro | (simp only [List.mem_cons, ofString_inj, String.reduceEq, true_or, or_true, List.length_map]; done) | with_reducible exact (rfl : (_ : Nat) = _) | exact (rfl : (_ : Option String) = _) | (refine small_line ?_; omega) | (walk_at "ll"; first | omega | (refine small_line ?_; omega) | fail) | (exact log_small (by omega)) | fail) ?_ | fail))
local macro_rules | `(tactic| walk_at "ll") => `(tactic| simp only [List.length_map, List.length_append, List.length_cons, List.length_nil, List.map_cons, List.map_nil, List.sum_cons, List.sum_nil, len_app, rng_length, ll_0, ll_1, ll_2, ll_3, ll_4, ll_5, ll_6, ll_7, ll_8, ll_9, ll_10, ll_11, ll_12, ll_13, ll_14, ll_15, ll_16, ll_17, ll_18, ll_19, ll_20, ll_21, ll_22, ll_23, ll_24, ll_25, ll_26, ll_27, ll_28, ll_29, ll_30, ll_31, ll_32, ll_33, ll_34, ll_35, ll_36, ll_37, ll_38, ll_39, ll_40, ll_41, ll_42, ll_43, ll_44, ll_45, ll_46, ll_47, ll_48, ll_49, ll_50, ll_51, ll_52, ll_53, ll_54])
/-! ### the law's own reading of a text -/
theorem long_ws {ws : List Str} (h : 12 ≤ ws.length) : ∃ (w0 w1 w2 : Str) (nms : List Str) (a0 a1 a2 a3 a4 a5 a6 a7 : Str), 1 ≤ nms.length ∧ ws.length = nms.length + 11 ∧ ws = [w0, w1, w2] ++ nms ++ [a0, a1, a2, a3, a4, a5, a6, a7] := by
  match ws, h with
  | w0 :: w1 :: w2 :: r, h =>
    have hr : 9 ≤ r.length := by simp only [List.length_cons] at h; omega
    have e := List.take_append_drop (r.length - 8) r
    have hd : (r.drop (r.length - 8)).length = 8 := by rw [List.length_drop]; omega
    match he : r.drop (r.length - 8), hd with
    | [a0, a1, a2, a3, a4, a5, a6, a7], _ =>
      refine ⟨w0, w1, w2, r.take (r.length - 8), a0, a1, a2, a3, a4, a5, a6, a7, by rw [List.length_take]; omega, by simp only [List.length_cons, List.length_take]; omega, ?_⟩
      rw [he] at e
      rw [List.append_assoc, e] <;> rfl
theorem step_lastE {α : Type} (pre : List α) (w1 w2 w3 w4 w5 w6 w7 w8 : α) : stepL (pre ++ [w1, w2, w3, w4, w5, w6, w7, w8]) (some (-8)) none (some 2) = [w1, w3, w5, w7] := by
  have hl : (pre ++ [w1, w2, w3, w4, w5, w6, w7, w8]).length = pre.length + 8 := by simp
  have e0 : sliceBounds (some (-8)) none (some 2) (pre.length + 8) = (((pre.length : Nat) : Int), ((pre.length + 8 : Nat) : Int), 2) := by
    simp only [sliceBounds, Option.getD_some]
    refine Prod.ext ?_ (Prod.ext rfl rfl)
    simp
    omega
  have e1 : sliceRange ((pre.length : Nat) : Int) ((pre.length + 8 : Nat) : Int) 2 = [pre.length, pre.length + 2, pre.length + 4, pre.length + 6] := by
    unfold sliceRange
    have : ((((pre.length + 8 : Nat) : Int) - ((pre.length : Nat) : Int) + 2 - 1) / 2) = 4 := by omega
    simp only [this]
    rw [if_pos (by omega), if_pos (by omega)]
    show [((pre.length : Nat) + 2 * ((0 : Nat) : Int)).toNat, _, _, _] = _
    simp
    omega
  unfold stepL
  rw [hl, e0]
  dsimp only
  rw [e1]
  simp [List.getElem?_append]
theorem eqDs_strs : ∀ xs ys : List Str, eqDs (xs.map D.str) (ys.map D.str) = decide (xs = ys)
  | [], [] => rfl
  | [], _ :: _ => rfl
  | _ :: _, [] => rfl
  | x :: xs, y :: ys => by
    simp only [List.map_cons, eqDs, eqD, eqDs_strs xs ys, List.cons.injEq, Bool.decide_and]
    first | done | (congr 1; done) | (rw [beq_eq_decide])
theorem ne_strs {xs ys : List Str} {G : Gp} {R : DK} (h1 : ∀ z ∈ xs, pyD (.str z) = true) (h2 : ∀ z ∈ ys, pyD (.str z) = true) (k : R (.bl (decide (xs ≠ ys))) G) : dNe (.lst (xs.map D.str)) (.lst (ys.map D.str)) G R := by
  have hp : ∀ l : List Str, (∀ z ∈ l, pyD (.str z) = true) → pyD (.lst (l.map D.str)) = true ∧ depD (.lst (l.map D.str)) ≤ 1 := fun l h => by
    refine ⟨?_, ?_⟩
    · simp only [pyD]
      exact pyDs_of fun d hd => by obtain ⟨z, hz, e⟩ := List.mem_map.mp hd; rw [← e]; exact h z hz
    · simp only [depD]
      have := depDs_le (n := 0) (ds := l.map D.str) fun d hd => by obtain ⟨z, hz, e⟩ := List.mem_map.mp hd; rw [← e]; exact Nat.le_refl _
      omega
  refine (ne_pure (hp xs h1).1 (hp ys h2).1 (by have := (hp xs h1).2; omega) (by have := (hp ys h2).2; omega)).mpr ?_
  simp only [eqD, eqDs_strs]
  rw [← decide_not]
  exact k
theorem strs_keys : ∀ xs : List Str, keysD (xs.map D.str) = some (xs.map Sum.inr)
  | [] => rfl
  | x :: xs => by rw [List.map_cons, keysD, strs_keys xs] <;> rfl
theorem strs_uniq (xs : List Str) : decide (((uniq (xs.map (Sum.inr : Str → Key))).length : Int) < (xs.length : Int)) = !decide xs.Nodup := by
  have e1 := uniq_le (xs.map (Sum.inr : Str → Key))
  have e2 := uniq_eq (xs.map (Sum.inr : Str → Key))
  rw [List.length_map] at e1 e2
  have e3 : (xs.map (Sum.inr : Str → Key)).Nodup ↔ xs.Nodup := by
    constructor
    · intro z
      exact (List.pairwise_map.mp z).imp fun h e => h (congrArg Sum.inr e)
    · intro z
      exact List.pairwise_map.mpr (z.imp fun h e => h (Sum.inr.inj e))
  rw [e3] at e2
  by_cases hn : xs.Nodup
  · rw [decide_eq_true hn, decide_eq_false (by have := e2.mpr hn; omega)] <;> rfl
  · rw [decide_eq_false hn, decide_eq_true (by have : (uniq (xs.map (Sum.inr : Str → Key))).length ≠ xs.length := fun q => hn (e2.mp q); omega)] <;> rfl
theorem mwords_inj {w0 w1 w2 a0 a1 a2 a3 a4 a5 a6 a7 : Str} {nms names : List Str} {b hh al mo c : Int} (q : [w0, w1, w2] ++ nms ++ [a0, a1, a2, a3, a4, a5, a6, a7] = mwords b names hh al mo c) : w0 = "bits" ∧ w1 = numZ b ∧ w2 = "registers" ∧ nms = names ∧ a0 = "hidden" ∧ a1 = numZ hh ∧ a2 = "alus" ∧ a3 = numZ al ∧ a4 = "moves" ∧ a5 = numZ mo ∧ a6 = "cells" ∧ a7 = numZ c := by
  unfold mwords at q
  obtain ⟨q1, q2⟩ := List.append_inj' q rfl
  obtain ⟨q3, q4⟩ := List.append_inj q1 rfl
  simp only [List.cons.injEq, and_true] at q2 q3
  obtain ⟨h0, h1, h2, h3, h4, h5, h6, h7⟩ := q2
  exact ⟨q3.1, q3.2.1, q3.2.2, q4, h0, h1, h2, h3, h4, h5, h6, h7⟩
theorem mtxt_back {w1 a1 a3 a5 a7 : Str} {nms : List Str} {b hh al mo c : Int} (e1 : w1 = numZ b) (e2 : a1 = numZ hh) (e3 : a3 = numZ al) (e4 : a5 = numZ mo) (e5 : a7 = numZ c) : Txt.join " " ([("bits" : Str), w1, "registers"] ++ nms ++ [("hidden" : Str), a1, "alus", a3, "moves", a5, "cells", a7]) = mtxt b nms hh al mo c := by
  subst e1 e2 e3 e4 e5
  rfl
def sp__law_read : DSp := fun ds G R => ∃ z, ds = [.str z] ∧ z.length ≤ 600 ∧ pyD (.str z) = true ∧ (∀ b names hh al mo c, MachP b names hh al mo c → z = mtxt b names hh al mo c → R (machD b names hh al mo c) G) ∧ (NoMach z → R .non G)
local macro_rules | `(tactic| walk_at "x") => `(tactic| first
  | dsimp only [x_step]
  | fail)
theorem ok__law_read {P : Program} {w : World} {K : PySem.W.Frag} {mg : Str → Option Value} {base : Heap} {a : Ad} (T : Tx w K mg a) : FnD P w K mg base 2 a.f__law_read a.fd__law_read ["line"] sp__law_read := by
  refine fun_okD T.F__law_read sc__law_read (fun ds G R h => ?_) (fun cdv A outer s H hr => ⟨_, (qss_cons (qs_set (i := 1) sc__law_read.nd rfl (.inl rfl) (qe_m PySem.F.plainAttrs_str PySem.F.slot_str_split PySem.F.type_str_split (md_split false) (qv 0) (qa_cons qe_str qa_nil)))
      (qss_cons (qs_set (i := 2) sc__law_read.nd rfl (.inl rfl) (qe_lst false (qa_cons qe_str (qa_cons qe_str (qa_cons qe_str (qa_cons qe_str (qa_cons qe_str (qa_cons qe_str qa_nil))))))))
      (qss_cons (qs_if (QW.pt (qw_or (qt_cmp (od_ltE (room100 hr)) (qe_callB cd_len rfl T.n_len (by decide +kernel) (qa_cons (qv 1) qa_nil)) qe_int (nomark _)) (qw_or1 (qt_cmp (od_ne hr.units) (qe_op (od_add false) (qe_lst false (qa_cons (qe_ix xd_ix (qv 1) qe_int (fun _ _ => rfl)) (qa_cons (qe_ix xd_ix (qv 1) qe_int (fun _ _ => rfl)) qa_nil))) (qe_step false (qv 1) (qo_some (qe_un od_neg qe_int)) qo_none (qo_some qe_int) (fun _ _ => rfl))) (qv 2) (nomark _)))))
      (qss_one (qs_ret qe_non))
      qss_nil)
      (qss_cons (qs_set (i := 3) sc__law_read.nd rfl (.inl rfl) (qe_slice false (qv 1) (qo_some qe_int) (qo_some (qe_un od_neg qe_int))))
      (qss_cons (qs_asg (qe_lc false rfl sc__law_read.nd (qi_seq (qe_op (od_add false) (qe_lst false (qa_cons (qe_ix xd_ix (qv 1) qe_int (fun _ _ => rfl)) qa_nil)) (qe_step false (qv 1) (qo_some (qe_un od_neg qe_int)) qo_none (qo_some qe_int) (fun _ _ => rfl)))) (blkOk_by (own := [("word", 9)]) (N := N__law_read) (sc := defScope s__law_read) (by decide +kernel)) (fun _ _ _ _ _ => (pg_name (i := 9) sc__law_read.nd rfl (.inl rfl))) (tg_name (i := 9) (by decide)) (fun _ _ _ _ _ => qts_nil) (fun _ _ _ _ _ => (qe_call (ok__law_number T) (hr.mono (by omega)) rfl T.g__law_number T.F__law_number.kp T.b__law_number (qa_cons (qv 9) qa_nil)))) (qg_of (pg_unl rfl (pgs_cons (pg_name (i := 4) sc__law_read.nd rfl (.inl rfl)) (pgs_cons (pg_name (i := 5) sc__law_read.nd rfl (.inl rfl)) (pgs_cons (pg_name (i := 6) sc__law_read.nd rfl (.inl rfl)) (pgs_cons (pg_name (i := 7) sc__law_read.nd rfl (.inl rfl)) (pgs_cons (pg_name (i := 8) sc__law_read.nd rfl (.inl rfl)) pgs_nil)))))) (tg_namesL (is := [4, 5, 6, 7, 8]) (ws := [4, 5, 6, 7, 8]) (by decide) rfl)))
      (qss_cons (qs_if (QW.pt (qw_or (qt_cmp (od_ltE (room100 hr)) (qv 4) qe_int (nomark _)) (qw_or (qt_cmp od_gt (qv 4) qe_int (nomark _)) (qw_or (qt_cmp od_gt (qe_callB cd_len rfl T.n_len (by decide +kernel) (qa_cons (qv 3) qa_nil)) qe_int (nomark _)) (qw_or1 (qt_cmp (od_ltE (room100 hr)) (qe_lenSetE rfl (room100 hr) rfl T.n_len rfl T.n_set (qv 3)) (qe_callB cd_len rfl T.n_len (by decide +kernel) (qa_cons (qv 3) qa_nil)) (nomark _)))))))
      (qss_one (qs_ret qe_non))
      qss_nil)
      (qss_cons (qs_if (QW.pt (qw_or (qt_not (qt_val (qe_callB (cd_all rfl) rfl T.n_all (by decide +kernel) (qa_cons (qe_lc false rfl sc__law_read.nd (qi_seq (qv 3)) (blkOk_by (own := [("name", 10)]) (N := N__law_read) (sc := defScope s__law_read) (by decide +kernel)) (fun _ _ _ _ _ => (pg_name (i := 10) sc__law_read.nd rfl (.inl rfl))) (tg_name (i := 10) (by decide)) (fun _ _ _ _ _ => qts_nil) (fun _ _ _ _ _ => (qe_call (ok__law_is_name T) (hr.mono (by omega)) rfl T.g__law_is_name T.F__law_is_name.kp T.b__law_is_name (qa_cons (qv 10) qa_nil)))) qa_nil)))) (qw_or (qt_cmp (od_ltE (room100 hr)) (qv 5) qe_int (nomark _)) (qw_or1 (qt_cmp od_gt (qv 5) qe_int (nomark _))))))
      (qss_one (qs_ret qe_non))
      qss_nil)
      (qss_cons (qs_if (QW.pt (qw_or (qt_cmp (od_ltE (room100 hr)) (qv 8) qe_int (nomark _)) (qw_or1 (qt_cmp od_gt (qv 8) (qe_op od_shl qe_int (qv 4)) (nomark _)))))
      (qss_one (qs_ret qe_non))
      qss_nil)
      (qss_cons (qs_if (QW.pt (qw_or (qt_cmp (od_ltE (room100 hr)) (qv 6) qe_int (nomark _)) (qw_or (qt_cmp od_gt (qv 6) qe_int (nomark _)) (qw_or (qt_cmp (od_ltE (room100 hr)) (qv 7) qe_int (nomark _)) (qw_or1 (qt_cmp od_gt (qv 7) qe_int (nomark _)))))))
      (qss_one (qs_ret qe_non))
      qss_nil)
      (qss_one (qs_ret (qe_tup (qa_cons (qv 4) (qa_cons (qe_callTy cd_tuple rfl T.n_tuple (by decide +kernel) (qa_cons (qv 3) qa_nil)) (qa_cons (qv 5) (qa_cons (qv 6) (qa_cons (qv 7) (qa_cons (qv 8) qa_nil)))))))))))))))))), fun ds G R h => ?_⟩)
  · obtain ⟨z, rfl, _⟩ := h; rfl
  · obtain ⟨z, rfl, hl, hpy, h1, h2⟩ := h
    obtain ⟨ws, hW⟩ := words_of z
    have hwl : ∀ x ∈ ws, x.length ≤ 600 := fun x hx => Nat.le_trans (hW.wl x hx) hl
    have hwp : ∀ x ∈ ws, pyD (.str x) = true := fun x hx => by
      simp only [pyD] at hpy ⊢
      exact List.all_eq_true.mpr fun c hc => List.all_eq_true.mp hpy c (hW.cp x hx c hc)
    have hln := hW.ln
    refine seq_cut (fun σ' G' => σ' = [some (.str z), some (.lst (ws.map D.str)), none, none, none, none, none, none, none, none, none] ∧ G' = G) ?_ (fun N1 hN1 => ?_)
    rotate_left
    · walk_at "go"
      refine split_go hW.eq (by decide +kernel) (by omega) ?_
      exact hN1 _ _ ⟨rfl, rfl⟩
    rintro σ G1 ⟨rfl, rfl⟩
    by_cases h12 : 12 ≤ ws.length
    · obtain ⟨w0, w1, w2, nms, a0, a1, a2, a3, a4, a5, a6, a7, hn1, hnl, ew⟩ := long_ws h12
      have hat0 : atI (ws.map D.str) 0 = some (.str w0) := by rw [ew]; exact at_0
      have hat2 : atI (ws.map D.str) 2 = some (.str w2) := by rw [ew]; exact at_2
      have hat1 : atI (ws.map D.str) 1 = some (.str w1) := by rw [ew]; exact at_1
      have hs8 : stepL (ws.map D.str) (some (-8)) none (some 2) = [D.str a0, .str a2, .str a4, .str a6] := by rw [step_map, ew, step_lastE] <;> rfl
      have hs7 : stepL (ws.map D.str) (some (-7)) none (some 2) = [D.str a1, .str a3, .str a5, .str a7] := by rw [step_map, ew, step_last] <;> rfl
      have hcut : cutL (ws.map D.str) (some 3) (some (-8)) = nms.map D.str := by rw [cutX_map, ew, cut_mid]
      have hm : ∀ x ∈ [w0, w1, w2] ++ nms ++ [a0, a1, a2, a3, a4, a5, a6, a7], x.length ≤ 1000 ∧ pyD (.str x) = true := fun x hx => by
        rw [← ew] at hx
        exact ⟨by have := hwl x hx; omega, hwp x hx⟩
      have hfit : ∀ b names hh al mo c, MachP b names hh al mo c → z = mtxt b names hh al mo c → [w0, w1, w2] ++ nms ++ [a0, a1, a2, a3, a4, a5, a6, a7] = mwords b names hh al mo c := fun b names hh al mo c M e => by rw [← ew]; exact (found_of hW M e).1
      have hjn := hW.jn
      rw [ew] at hjn
      refine seq_cut (fun σ' G' => σ' = [some (.str z), some (.lst (ws.map D.str)), some (.lst ((["bits", "registers", "hidden", "alus", "moves", "cells"] : List Str).map D.str)), none, none, none, none, none, none, none, none] ∧ G' = G1) ?_ (fun N1 hN1 => ?_)
      rotate_left
      · walk_at "go"
        exact hN1 _ _ ⟨rfl, rfl⟩
      rintro σ G2 ⟨rfl, rfl⟩
      by_cases hk : [w0, w2, a0, a2, a4, a6] = (["bits", "registers", "hidden", "alus", "moves", "cells"] : List Str)
      · refine seq_cut (fun σ' G' => σ' = [some (.str z), some (.lst (ws.map D.str)), some (.lst ((["bits", "registers", "hidden", "alus", "moves", "cells"] : List Str).map D.str)), none, none, none, none, none, none, none, none] ∧ G' = G2) ?_ (fun N1 hN1 => ?_)
        rotate_left
        · walk_at "go"
          rw [if_neg (by rw [List.length_map]; omega), hat0, hat2]
          walk_at "go"
          rw [show lstOf G2 (D.lst (ws.map D.str)) = some (ws.map D.str) from rfl]
          dsimp only
          rw [hs8]
          refine ⟨by decide, by rw [sizeLine_eq]; simp, by rw [sizeLine_eq]; simp, ?_⟩
          refine ne_strs (xs := [w0, w2, a0, a2, a4, a6]) (ys := ["bits", "registers", "hidden", "alus", "moves", "cells"]) (fun x hx => (hm x ?_).2) (fun x hx => ?_) ?_
          · simp only [List.mem_cons, List.not_mem_nil, or_false] at hx
            simp only [List.mem_append, List.mem_cons, List.not_mem_nil, or_false]
            rcases hx with h | h | h | h | h | h <;> simp [h]
          · simp only [List.mem_cons, List.not_mem_nil, or_false] at hx
            rcases hx with rfl | rfl | rfl | rfl | rfl | rfl <;> decide +kernel
          rw [decide_eq_false (fun q => q hk)]
          walk_at "go"
          exact hN1 _ _ ⟨rfl, rfl⟩
        rintro σ G3 ⟨rfl, rfl⟩
        simp only [List.cons.injEq, and_true] at hk
        obtain ⟨k0, k2, k3, k5, k7, k9⟩ := hk
        refine seq_cut (fun σ' G' => σ' = [some (.str z), some (.lst (ws.map D.str)), some (.lst ((["bits", "registers", "hidden", "alus", "moves", "cells"] : List Str).map D.str)), some (.lst (nms.map D.str)), none, none, none, none, none, none, none] ∧ G' = G3) ?_ (fun N1 hN1 => ?_)
        rotate_left
        · walk_at "go"
          rw [hcut]
          exact hN1 _ _ ⟨rfl, rfl⟩
        rintro σ G4 ⟨rfl, rfl⟩
        refine seq_cut (fun σ' G' => σ' = [some (.str z), some (.lst (ws.map D.str)), some (.lst ((["bits", "registers", "hidden", "alus", "moves", "cells"] : List Str).map D.str)), some (.lst (nms.map D.str)), some (.int (numN w1)), some (.int (numN a1)), some (.int (numN a3)), some (.int (numN a5)), some (.int (numN a7)), none, none] ∧ G' = G4) ?_ (fun N1 hN1 => ?_)
        rotate_left
        · walk_at "go"
          rw [hat1, isN_some, show lstOf G4 (D.lst (ws.map D.str)) = some (ws.map D.str) from rfl]
          dsimp only
          rw [hs7]
          refine ⟨by decide, by decide, by rw [sizeLine_eq]; simp, by rw [sizeLine_eq]; simp, by rw [sizeLine_eq]; simp, ?_⟩
          refine lc_typ D.str (fun w => D.int (numN w)) True.intro [w1, a1, a3, a5, a7] [] (fun w hw Q q => ?_) _ ?_
          · have hw' : w ∈ [w0, w1, w2] ++ nms ++ [a0, a1, a2, a3, a4, a5, a6, a7] := by
              simp only [List.mem_cons, List.not_mem_nil, or_false] at hw
              simp only [List.mem_append, List.mem_cons, List.not_mem_nil, or_false]
              rcases hw with h | h | h | h | h <;> simp [h]
            walk_at "go"
            exact go_lawnum (hm w hw').1 (hm w hw').2 q
          rw [x_namesL]
          refine ⟨rfl, ?_⟩
          exact hN1 _ _ ⟨rfl, rfl⟩
        rintro σ G5 ⟨rfl, rfl⟩
        have hb1 : w1.length ≤ 1000 := (hm w1 (by simp)).1
        have hnl2 : ∀ x ∈ nms, plD (.str x) = true := fun x hx => by
          have := hm x (by simp [hx])
          refine pl_str.mpr ⟨this.1, fun c hc => of_decide_eq_true (List.all_eq_true.mp (show (x.cps.toList.all fun c => decide (c < 1114112)) = true by simpa only [pyD] using this.2) c hc)⟩
        have hnn : ¬ MachP (numN w1) nms (numN a1) (numN a3) (numN a5) (numN a7) → R .non G5 := fun C => h2 fun b names hh al mo c M e => by
          obtain ⟨_, e1, _, en, _, e4, _, e6, _, e8, _, e10⟩ := mwords_inj (hfit b names hh al mo c M e)
          have hb := M.b1; have hb2 := M.b2; have hh1 := M.h1; have hh2 := M.h2; have ha1 := M.a1; have ha2 := M.a2; have hm1 := M.m1; have hm2 := M.m2; have hc1 := M.c1; have hc2 := M.c2
          have ht := top_le hb hb2
          rw [e1, en, e4, e6, e8, e10, numN_num (by omega) (by omega), numN_num (by omega) (by omega), numN_num (by omega) (by omega), numN_num (by omega) (by omega), numN_num (by omega) (by omega)] at C
          exact C M
        have hlen : ((nms.map D.str).length : Int) = (nms.length : Int) := by rw [List.length_map]
        rcases Classical.em (1 ≤ numN w1 ∧ numN w1 ≤ 8 ∧ nms.length ≤ 6 ∧ nms.Nodup) with q1 | q1
        rotate_left
        · have hr : R .non G5 := hnn fun M => q1 ⟨M.b1, M.b2, M.n2, M.nm.nd⟩
          walk_at "go"
          split
          · exact rt_same hr
          split
          · exact rt_same hr
          split
          · exact rt_same hr
          rw [x_lenSetE, x_var]
          dsimp only [List.getElem?_cons_succ, List.getElem?_cons_zero, slo_some]
          rw [show (seqOf _ (D.lst (nms.map D.str))).bind keysD = _ from strs_keys nms]
          dsimp only
          refine ⟨by rw [List.length_map]; exact Nat.lt_of_le_of_lt (show nms.length + 1 ≤ 7 by omega) (by decide), ?_⟩
          rw [ltE_ii, hlen, isB_bl]
          rw [strs_uniq, decide_eq_false (fun q => q1 ⟨by omega, by omega, by omega, q⟩), Bool.not_false, br_t]
          exact rt_same hr
        refine seq_cut (fun σ' G' => σ' = [some (.str z), some (.lst (ws.map D.str)), some (.lst ((["bits", "registers", "hidden", "alus", "moves", "cells"] : List Str).map D.str)), some (.lst (nms.map D.str)), some (.int (numN w1)), some (.int (numN a1)), some (.int (numN a3)), some (.int (numN a5)), some (.int (numN a7)), none, none] ∧ G' = G5) ?_ (fun N1 hN1 => ?_)
        rotate_left
        · walk_at "go"
          rw [if_neg (by omega), if_neg (by omega), if_neg (by omega)]
          rw [x_lenSetE, x_var]
          dsimp only [List.getElem?_cons_succ, List.getElem?_cons_zero, slo_some]
          rw [show (seqOf _ (D.lst (nms.map D.str))).bind keysD = _ from strs_keys nms]
          dsimp only
          refine ⟨by rw [List.length_map]; exact Nat.lt_of_le_of_lt (show nms.length + 1 ≤ 7 by omega) (by decide), ?_⟩
          rw [ltE_ii, hlen, isB_bl]
          rw [strs_uniq, decide_eq_true q1.2.2.2, Bool.not_true, br_f]
          exact hN1 _ _ ⟨rfl, rfl⟩
        rintro σ G6 ⟨rfl, rfl⟩
        rcases Classical.em ((∀ x ∈ nms, nameOk x = true) ∧ 0 ≤ numN a1 ∧ numN a1 ≤ 12) with q2 | q2
        rotate_left
        · have hr : R .non G6 := hnn fun M => q2 ⟨M.nm.ok, M.h1, M.h2⟩
          walk_at "go"
          refine all_typ (gd := fun _ => True) D.str nameOk True.intro nms (fun x hx Q q => ?_) ?_
          · walk_at "go"
            exact ⟨hnl2 x hx, q⟩
          walk_at "go"
          cases hall : nms.all nameOk with
          | false =>
            rw [br_f]
            exact rt_same hr
          | true =>
            rw [br_t]
            have hall2 := List.all_eq_true.mp hall
            split
            · exact rt_same hr
            split
            · exact rt_same hr
            exact absurd ⟨hall2, by omega, by omega⟩ q2
        refine seq_cut (fun σ' G' => σ' = [some (.str z), some (.lst (ws.map D.str)), some (.lst ((["bits", "registers", "hidden", "alus", "moves", "cells"] : List Str).map D.str)), some (.lst (nms.map D.str)), some (.int (numN w1)), some (.int (numN a1)), some (.int (numN a3)), some (.int (numN a5)), some (.int (numN a7)), none, none] ∧ G' = G6) ?_ (fun N1 hN1 => ?_)
        rotate_left
        · walk_at "go"
          refine all_typ (gd := fun _ => True) D.str nameOk True.intro nms (fun x hx Q q => ?_) ?_
          · walk_at "go"
            exact ⟨hnl2 x hx, q⟩
          walk_at "go"
          rw [List.all_eq_true.mpr q2.1, br_t, if_neg (by omega), if_neg (by omega)]
          exact hN1 _ _ ⟨rfl, rfl⟩
        rintro σ G7 ⟨rfl, rfl⟩
        rcases Classical.em (0 ≤ numN a7 ∧ numN a7 ≤ 2 ^ (numN w1).toNat) with q3 | q3
        rotate_left
        · have hr : R .non G7 := hnn fun M => q3 ⟨M.c1, M.c2⟩
          walk_at "go"
          split
          · exact rt_same hr
          refine ⟨shl_ok (by omega) (by omega), ?_⟩
          rw [Int.one_mul]
          split
          · exact rt_same hr
          exact absurd ⟨by omega, by omega⟩ q3
        refine seq_cut (fun σ' G' => σ' = [some (.str z), some (.lst (ws.map D.str)), some (.lst ((["bits", "registers", "hidden", "alus", "moves", "cells"] : List Str).map D.str)), some (.lst (nms.map D.str)), some (.int (numN w1)), some (.int (numN a1)), some (.int (numN a3)), some (.int (numN a5)), some (.int (numN a7)), none, none] ∧ G' = G7) ?_ (fun N1 hN1 => ?_)
        rotate_left
        · walk_at "go"
          rw [if_neg (by omega)]
          refine ⟨shl_ok (by omega) (by omega), ?_⟩
          rw [Int.one_mul, if_neg (by omega)]
          exact hN1 _ _ ⟨rfl, rfl⟩
        rintro σ G8 ⟨rfl, rfl⟩
        rcases Classical.em (1 ≤ numN a3 ∧ numN a3 ≤ 3 ∧ 1 ≤ numN a5 ∧ numN a5 ≤ 3) with q4 | q4
        rotate_left
        · have hr : R .non G8 := hnn fun M => q4 ⟨M.a1, M.a2, M.m1, M.m2⟩
          walk_at "go"
          split
          · exact rt_same hr
          split
          · exact rt_same hr
          split
          · exact rt_same hr
          split
          · exact rt_same hr
          exact absurd ⟨by omega, by omega, by omega, by omega⟩ q4
        refine seq_cut (fun σ' G' => σ' = [some (.str z), some (.lst (ws.map D.str)), some (.lst ((["bits", "registers", "hidden", "alus", "moves", "cells"] : List Str).map D.str)), some (.lst (nms.map D.str)), some (.int (numN w1)), some (.int (numN a1)), some (.int (numN a3)), some (.int (numN a5)), some (.int (numN a7)), none, none] ∧ G' = G8) ?_ (fun N1 hN1 => ?_)
        rotate_left
        · walk_at "go"
          rw [if_neg (by omega), if_neg (by omega), if_neg (by omega), if_neg (by omega)]
          exact hN1 _ _ ⟨rfl, rfl⟩
        rintro σ G9 ⟨rfl, rfl⟩
        have C : MachP (numN w1) nms (numN a1) (numN a3) (numN a5) (numN a7) := ⟨q1.1, q1.2.1, hn1, q1.2.2.1, ⟨q2.1, q1.2.2.2⟩, q2.2.1, q2.2.2, q4.1, q4.2.1, q4.2.2.1, q4.2.2.2, q3.1, q3.2⟩
        have hM := h1 _ _ _ _ _ _ C (by
          rw [hjn, k0, k2, k3, k5, k7, k9]
          have t1 := C.b1; have t2 := C.h1; have t3 := C.a1; have t4 := C.m1; have t5 := C.c1
          exact mtxt_back (numN_back (by omega)) (numN_back (by omega)) (numN_back (by omega)) (numN_back (by omega)) (numN_back (by omega)))
        walk_at "go"
        exact hM
      · have hno : NoMach z := fun b names hh al mo c M e => by
          have q := hfit b names hh al mo c M e
          obtain ⟨e0, _, e2, _, e3, _, e5, _, e7, _, e9, _⟩ := mwords_inj q
          exact hk (by rw [e0, e2, e3, e5, e7, e9])
        have hr := h2 hno
        walk_at "go"
        rw [if_neg (by rw [List.length_map]; omega), hat0, hat2]
        walk_at "go"
        rw [show lstOf G2 (D.lst (ws.map D.str)) = some (ws.map D.str) from rfl]
        dsimp only
        rw [hs8]
        refine ⟨by decide, by rw [sizeLine_eq]; simp, by rw [sizeLine_eq]; simp, ?_⟩
        refine ne_strs (xs := [w0, w2, a0, a2, a4, a6]) (ys := ["bits", "registers", "hidden", "alus", "moves", "cells"]) (fun x hx => (hm x ?_).2) (fun x hx => ?_) ?_
        · simp only [List.mem_cons, List.not_mem_nil, or_false] at hx
          simp only [List.mem_append, List.mem_cons, List.not_mem_nil, or_false]
          rcases hx with h | h | h | h | h | h <;> simp [h]
        · simp only [List.mem_cons, List.not_mem_nil, or_false] at hx
          rcases hx with rfl | rfl | rfl | rfl | rfl | rfl <;> decide +kernel
        rw [decide_eq_true (show _ ≠ _ from hk)]
        walk_at "go"
        exact hr
    · have hno : NoMach z := fun b names hh al mo c M e => by
        have hn := M.n1
        have q := (found_of hW M e).1
        rw [q] at h12
        simp only [mwords, List.length_append, List.length_cons, List.length_nil] at h12
        omega
      have hr := h2 hno
      walk_at "go"
      rw [if_pos (by rw [List.length_map]; omega)]
      exact rt_same hr
end K15


set_option Elab.async false
set_option linter.all false
set_option maxRecDepth 100000
set_option maxHeartbeats 4000000
set_option autoImplicit false
namespace K15
open PySem PySem.Spec PyProof.Rows L2 DL
local macro_rules | `(tactic| walk_at "d") => `(tactic| dsimp only [dSeq, dNext, dIfS, dRet, dRetN, dAsg, dName, dVar, dC, dOp, dUn, dChain, dB, dAnd, dOr, dNot, dAndV, dOrV, dNotV, dIf, dNil, dCons, dTup, dLst, newL, dCallB, dCall, dCallK, dDrop, dAug, dAugS, dSub, dM, dM0, dSlice, dNoPart, dPart, dLc, dYes, dFor, dIter, dRng1, dEnum, dZipM, srcD, dStar, dInK, dIxK, dLenSet, dRev,
  startD, wipeD, setAll, dNames, List.map_cons, List.map_nil, List.length_cons, List.length_nil, List.replicate, List.cons_append, List.nil_append, List.append_nil, List.getElem?_cons_zero, List.getElem?_cons_succ, List.set_cons_zero, List.set_cons_succ, List.map, Nat.zero_add, Nat.reduceAdd, Nat.reduceSub, Nat.sub_self, Nat.succ_sub_succ_eq_sub])
local macro_rules | `(tactic| walk_at "o") => `(tactic| simp only [dAdd_ii, dAdd_ss, dAdd_tt, dAdd_ll, dMinus_ii, dMul_ii, dMod_ii, dFdiv_ii, dPow_ii, dShl_ii, dNeg_i, dIadd_ii, dLt_ii, dLe_ii, dGt_ii, dGe_ii, dEq_ii, dNe_ii, dEq_ss, dNe_ss, dEq_bb, dNe_bb, dIs_n, dIsNot_n, dMax2_ii, dMin2_ii, dTuple_t, dTuple_l, dList_t, dList_l, dIx_t, dIx_l, dIx_s, dSl_t, dSl_l, dSl_s, newL_f, len_tup, len_lst])
local macro_rules | `(tactic| walk_at "w") => `(tactic| dsimp only [x_var, x_c, x_op, x_un, x_b, x_and, x_or, x_not, x_chain, x_andV, x_orV, x_notV, x_if, x_nil, x_cons, x_tup, x_lst0, x_lst1, x_callB, x_call, x_callK, x_next, x_seq, x_break, x_cont, x_drop, x_ret, x_ifS, x_asg, x_name, x_names, x_sub, x_aug, x_augS, x_for, x_lc0, x_lc1, x_yes, x_noPart, x_part, x_slice, x_iter, it_t, it_l, it_n, it_s, it_r, x_rng1, x_enum, x_rev, x_m, x_m0, x_mX, x_zip, x_star_t, x_star_l, x_lenSet, x_forgo0, x_lcgo0, x_while, x_par, x_sortK,
  br_t, br_f, isB_bl, isI_int, isN_some, slo_some, atL_lst, ix_t, ix_l, ix_n,
  dAdd_ii, dAdd_ss, dAdd_tt, dAdd_ll, dMinus_ii, dMul_ii, dMod_ii, dFdiv_ii, dPow_ii, dShl_ii, dNeg_i, dIadd_ii, dLt_ii, dLe_ii, dGt_ii, dGe_ii, ltE_ii, ltE_ss, srcD, isi_i, isi_s, isi_b, isi_n, isi_t, isi_nt, isi_l, isi2_i, isi2_s, isi2_b, isi2_n, isi2_t, isi2_nt, isi2_l, inon_n, inon_i, inon_s, inon_b, inon_t, inon_l, inon_r, dEq_ii, dNe_ii, dEq_ss, dNe_ss, dEq_bb, dNe_bb, dIs_n, dIsNot_n, dMax2_ii, dMin2_ii, dTuple_t, dTuple_l, dList_t, dList_l, dSl_t, dSl_l, dSl_s, newL_f, newL_t, app_r, int_b, int_i, strI_i, strX_i, strX_s,
  startD, wipeD, setAll, permL, List.filterMap, List.map_cons, List.map_nil, List.length_cons, List.length_nil, List.replicate, List.cons_append, List.nil_append, List.append_nil, List.getElem?_cons_zero, List.getElem?_cons_succ, List.set_cons_zero, List.set_cons_succ, List.map, Nat.zero_add, Nat.reduceAdd, Nat.reduceSub, Nat.sub_self, Nat.succ_sub_succ_eq_sub])
local macro_rules | `(tactic| walk_at "v") => `(tactic| simp only [ofString_inj, String.reduceEq, at_0, at_1, at_2, at_3, at_4, at_5, isN_some, isBB_bl, isB_bl, br_t, br_f, br_not, br_and, br_or, br_dec, ix_r, len_tup, len_lst, len_nt, ltE_key, gup_gup, gup_same, starD_one, cut1, cut2, kt1, kt2, kt3, kt4, kt5, kt6, isTy, String.reduceBEq, Bool.or_false, Bool.false_or, Bool.true_or, Bool.or_true, Bool.and_false, Bool.false_and, Bool.true_and, Bool.and_true, Bool.not_true, Bool.not_false, decide_true, decide_false, eq_self_iff_true, Bool.false_eq_true, Int.reduceAdd, Int.add_zero, if_true, if_false, true_and, and_true])
local macro_rules | `(tactic| walk_at "side") => `(tactic| first | with_reducible assumption | omega | exact mty_up | exact True.intro | (simp only [List.mem_cons, ofString_inj, String.reduceEq, true_or, or_true, List.length_map]; done) | with_reducible exact (rfl : (_ : Nat) = _) | exact (rfl : (_ : Option String) = _) | (refine small_line ?_; omega) | (walk_at "ll"; first | omega | (refine small_line ?_; omega) | fail) | (exact log_small (by omega)) | fail)
local macro_rules | `(tactic| walk_at "x") => `(tactic| fail)
local macro_rules | `(tactic| walk_at "go") => `(tactic| repeat' (first | dsimp only [x_var, x_c, x_op, x_un, x_b, x_and, x_or, x_not, x_chain, x_andV, x_orV, x_notV, x_if, x_nil, x_cons, x_tup, x_lst0, x_lst1, x_callB, x_call, x_callK, x_next, x_seq, x_break, x_cont, x_drop, x_ret, x_ifS, x_asg, x_name, x_names, x_sub, x_aug, x_augS, x_for, x_lc0, x_lc1, x_yes, x_noPart, x_part, x_slice, x_iter, it_t, it_l, it_n, it_s, it_r, x_rng1, x_enum, x_rev, x_m, x_m0, x_mX, x_zip, x_star_t, x_star_l, x_lenSet, x_forgo0, x_lcgo0, x_while, x_par, x_sortK, br_t, br_f, isB_bl, isI_int, isN_some, slo_some, atL_lst, ix_t, ix_l, ix_n, dAdd_ii, dAdd_ss, dAdd_tt, dAdd_ll, dMinus_ii, dMul_ii, dMod_ii, dFdiv_ii, dPow_ii, dShl_ii, dNeg_i, dIadd_ii, dLt_ii, dLe_ii, dGt_ii, dGe_ii, ltE_ii, ltE_ss, srcD, isi_i, isi_s, isi_b, isi_n, isi_t, isi_nt, isi_l, isi2_i, isi2_s, isi2_b, isi2_n, isi2_t, isi2_nt, isi2_l, inon_n, inon_i, inon_s, inon_b, inon_t, inon_l, inon_r, dEq_ii, dNe_ii, dEq_ss, dNe_ss, dEq_bb, dNe_bb, dIs_n, dIsNot_n, dMax2_ii, dMin2_ii, dTuple_t, dTuple_l, dList_t, dList_l, dSl_t, dSl_l, dSl_s, newL_f, newL_t, app_r, int_b, int_i, strI_i, strX_i, strX_s, startD, wipeD, setAll, permL, List.filterMap, List.map_cons, List.map_nil, List.length_cons, List.length_nil, List.replicate, List.cons_append, List.nil_append, List.append_nil, List.getElem?_cons_zero, List.getElem?_cons_succ, List.set_cons_zero, List.set_cons_succ, List.map, Nat.zero_add, Nat.reduceAdd, Nat.reduceSub, Nat.sub_self, Nat.succ_sub_succ_eq_sub] | simp only [ofString_inj, String.reduceEq, at_0, at_1, at_2, at_3, at_4, at_5, isN_some, isBB_bl, isB_bl, br_t, br_f, br_not, br_and, br_or, br_dec, ix_r, len_tup, len_lst, len_nt, ltE_key, gup_gup, gup_same, starD_one, cut1, cut2, kt1, kt2, kt3, kt4, kt5, kt6, isTy, String.reduceBEq, Bool.or_false, Bool.false_or, Bool.true_or, Bool.or_true, Bool.and_false, Bool.false_and, Bool.true_and, Bool.and_true, Bool.not_true, Bool.not_false, decide_true, decide_false, eq_self_iff_true, Bool.false_eq_true, Int.reduceAdd, Int.add_zero, if_true, if_false, true_and, and_true] | walk_at "x" | with_reducible refine kont_go ?_ | with_reducible refine rt_sub (by assumption) ?_ | with_reducible refine rt_lst (by assumption) ?_ | with_reducible refine rt_drop (by assumption) ?_ | with_reducible refine rt_keep (by assumption) (by assumption) ?_ | with_reducible refine rt_same ?_ | (refine fun (p : Addr) (_ : _ = none) => ?_) | refine join_gor gup_same rfl (by walk_at "side") ?_ | with_reducible refine lc_cons ?_ | with_reducible refine for_cons ?_ | refine join_go rfl (by walk_at "side") ?_ | refine And.intro (by first | with_reducible assumption | omega | exact mty_up | exact True.intro | (simp only [List.mem_cons, ofString_inj, String.reduceEq, true_or, or_true, List.length_map]; done) | with_reducible exact (rfl : (_ : Nat) = _) | exact (rfl : (_ : Option String) = _) | (refine small_line ?_; omega) | (walk_at "ll"; first | omega | (refine small_line ?_; omega) | fail) | (exact log_small (by omega)) | fail) ?_ | fail))
local macro_rules | `(tactic| walk_at "ll") => `(tactic| simp only [List.length_map, List.length_append, List.length_cons, List.length_nil, List.map_cons, List.map_nil, List.sum_cons, List.sum_nil, len_app, rng_length, ll_0, ll_1, ll_2, ll_3, ll_4, ll_5, ll_6, ll_7, ll_8, ll_9, ll_10, ll_11, ll_12, ll_13, ll_14, ll_15, ll_16, ll_17, ll_18, ll_19, ll_20, ll_21, ll_22, ll_23, ll_24, ll_25, ll_26, ll_27, ll_28, ll_29, ll_30, ll_31, ll_32, ll_33, ll_34, ll_35, ll_36, ll_37, ll_38, ll_39, ll_40, ll_41, ll_42, ll_43, ll_44, ll_45, ll_46, ll_47, ll_48, ll_49, ll_50, ll_51, ll_52, ll_53, ll_54])
/-! ### a text with a thing in it otherwise -/
theorem at_lt {α : Type} {l : List α} {r : Nat} (h : r < l.length) : ∃ c, atI l (r : Int) = some c ∧ c ∈ l := ⟨l[r], atI_nat (List.getElem?_eq_getElem h), List.getElem_mem h⟩
theorem chr_py {z : Str} {c : Nat} (h : c ∈ cds z) (hz : pyD (.str z) = true) : pyD (.str ⟨#[c]⟩) = true := py_str.mpr fun x hx => by
  obtain rfl : x = c := by simpa [cds] using hx
  exact py_str.mp hz x h
theorem cutS_py {z : Str} {lo hi : Option Int} (hz : pyD (.str z) = true) : pyD (.str (cutS z lo hi)) = true := py_str.mpr fun x hx => by
  rw [cds_cut] at hx
  unfold cutL at hx
  exact py_str.mp hz x (List.mem_of_mem_drop (List.mem_of_mem_take hx))
theorem cutS_take (z : Str) (k : Nat) : (cutS z none (some (k : Int))).length = min k z.length := by rw [← cds_len, cds_cut, cut_take, List.length_take, cds_len]
theorem cutS_drop (z : Str) (k : Nat) : (cutS z (some (k : Int)) none).length = z.length - k := by rw [← cds_len, cds_cut, cut_drop, List.length_drop, cds_len]
theorem app_len (a b : Str) : (a ++ b).length = a.length + b.length := by rw [← cds_len, cds_app, List.length_append, cds_len, cds_len]
/-- the signs of words, with a blank each -/
def wsL (ws : List Str) : Nat := (ws.map fun z : Str => z.length + 1).sum
theorem wsL_app (a b : List Str) : wsL (a ++ b) = wsL a + wsL b := by unfold wsL; rw [List.map_append, List.sum_append]
theorem wsL_one (a : Str) : wsL [a] = a.length + 1 := by simp [wsL]
theorem wsL_cons (a : Str) (r : List Str) : wsL (a :: r) = a.length + 1 + wsL r := by simp [wsL]
theorem join_wsL : ∀ ws : List Str, ws ≠ [] → (Txt.join " " ws).length + 1 = wsL ws
  | [], h => absurd rfl h
  | [a], _ => by rw [← cds_len, cds_join, wsL_one, ← cds_len a]; simp
  | a :: b :: r, _ => by
    have ih := join_wsL (b :: r) (by simp)
    rw [← cds_len, cds_join] at ih ⊢
    rw [wsL_cons]
    have e1 : (cds (Str.ofString " ")).length = 1 := by decide +kernel
    simp only [List.map_cons, List.intersperse_cons₂, List.flatten_cons, List.length_append, cds_len] at ih ⊢
    rw [← cds_len (Str.ofString " "), e1]
    omega
theorem join_wsL0 (ws : List Str) : (Txt.join " " ws).length ≤ wsL ws - 1 := by
  by_cases h : ws = []
  · subst h; decide +kernel
  · have := join_wsL ws h; omega
theorem sub_up {A B : Gp} {s : Addr} {x y : GO} (h : DL.Sub (gup A s x) B) : DL.Sub (gup A s y) (gup B s y) := fun b u hb => by
  by_cases e : b = s
  · subst e; rw [gup_same] at hb ⊢; exact hb
  · rw [gup_ne e] at hb ⊢
    exact h b u (by rw [gup_ne e]; exact hb)
theorem sum_le_sum : ∀ vs : List Str, (vs.map fun z : Str => z.length).sum ≤ (vs.map fun z : Str => z.length + 1).sum
  | [] => Nat.le_refl _
  | a :: r => by have := sum_le_sum r; simp only [List.map_cons, List.sum_cons]; omega
theorem atI_map {α β : Type} {f : α → β} {l : List α} {i : Int} {x : α} (h : atI l i = some x) : atI (l.map f) i = some (f x) := by
  unfold atI at h ⊢
  rw [List.length_map]
  cases hi : ixN l.length i with
  | none => rw [hi] at h; cases h
  | some j =>
    rw [hi] at h
    simp only [Option.bind_some] at h ⊢
    rw [List.getElem?_map, h] <;> rfl
def odd1 : List Str := ["add", "alu", "put", "load", "nop", "/", "h0", "h12", "h13", "h00", "h", "a", "0", "7", "00", "256", "="]
def odd2 : List Str := ["if", "then", "else", "{", "}", ";", "bits", "cells", "hidden", "999999999", "111111111111111111111111111111111111111111111111111111111111", "x", "b"]
theorem odd_ok : ∀ z ∈ odd1 ++ odd2, z.length ≤ 60 := by decide +kernel
theorem odd_py : ∀ z ∈ odd1 ++ odd2, pyD (.str z) = true := by decide +kernel
def Chg15 (n : Nat) (s : Addr) (z : Str) (G : Gp) (R : DK) : Prop := ∀ (z' : Str) o', pyD (.str z') = true → (z'.length ≤ 2 * z.length + 1 ∨ z'.length ≤ z.length + 61) → SackO (n + 5) o' → R (.str z') (gup G s o')
def sp__law_changed : DSp := fun ds G R => ∃ s z n o, ds = [.ref s, .str z] ∧ G s = some o ∧ SackO n o ∧ n ≤ 900000 ∧ z.length ≤ 5000 ∧ pyD (.str z) = true ∧ Chg15 n s z G R
local macro_rules | `(tactic| walk_at "x") => `(tactic| first
  | dsimp only [x_subSl, x_step]
  | fail)
theorem ok__law_changed {P : Program} {w : World} {K : PySem.W.Frag} {mg : Str → Option Value} {base : Heap} {a : Ad} (T : Tx w K mg a) : FnD P w K mg base 2 a.f__law_changed a.fd__law_changed ["sack", "line"] sp__law_changed := by
  refine fun_okD T.F__law_changed sc__law_changed (fun ds G R h => ?_) (fun cdv A outer s H hr => ⟨_, (qss_cons (qs_set (i := 2) sc__law_changed.nd rfl (.inl rfl) qe_str)
      (qss_cons (qs_set (i := 3) sc__law_changed.nd rfl (.inl rfl) (qe_ix xd_ix (qv 2) (qe_call (ok__law_pull T) (hr.mono (by omega)) rfl T.g__law_pull T.F__law_pull.kp T.b__law_pull (qa_cons (qv 0) (qa_cons (qe_callB cd_len rfl T.n_len (by decide +kernel) (qa_cons (qv 2) qa_nil)) qa_nil))) (fun _ _ => rfl)))
      (qss_cons (qs_set (i := 4) sc__law_changed.nd rfl (.inl rfl) (qe_call (ok__law_pull T) (hr.mono (by omega)) rfl T.g__law_pull T.F__law_pull.kp T.b__law_pull (qa_cons (qv 0) (qa_cons (qe_op (od_add false) (qe_callB cd_len rfl T.n_len (by decide +kernel) (qa_cons (qv 1) qa_nil)) qe_int) qa_nil))))
      (qss_cons (qs_set (i := 5) sc__law_changed.nd rfl (.inl rfl) (qe_call (ok__law_pull T) (hr.mono (by omega)) rfl T.g__law_pull T.F__law_pull.kp T.b__law_pull (qa_cons (qv 0) (qa_cons qe_int qa_nil))))
      (qss_cons (qs_if (qt_cmp (od_ltE (room100 hr)) (qv 5) qe_int (nomark _))
      (qss_one (qs_ret (qe_op (od_add false) (qe_op (od_add false) (qe_slice false (qv 1) qo_none (qo_some (qv 4))) (qe_ix xd_ix (qe_lst false (qa_cons (qv 3) (qa_cons qe_str (qa_cons (qv 3) qa_nil)))) (qv 5) (fun _ _ => rfl))) (qe_slice false (qv 1) (qo_some (qe_op (od_add false) (qv 4) (qe_callTy cd_int rfl T.n_int (by decide +kernel) (qa_cons (qe_cmp od_gt (qv 5) qe_int (nomark _)) qa_nil)))) qo_none))))
      qss_nil)
      (qss_cons (qs_set (i := 6) sc__law_changed.nd rfl (.inl rfl) (qe_m PySem.F.plainAttrs_str PySem.F.slot_str_split PySem.F.type_str_split (md_split true) (qv 1) (qa_cons qe_str qa_nil)))
      (qss_cons (qs_set (i := 7) sc__law_changed.nd rfl (.inl rfl) (qe_call (ok__law_pull T) (hr.mono (by omega)) rfl T.g__law_pull T.F__law_pull.kp T.b__law_pull (qa_cons (qv 0) (qa_cons (qe_callB cd_len rfl T.n_len (by decide +kernel) (qa_cons (qv 6) qa_nil)) qa_nil))))
      (qss_cons (qs_set (i := 8) sc__law_changed.nd rfl (.inl rfl) (qe_lst false (qa_cons qe_str (qa_cons qe_str (qa_cons qe_str (qa_cons qe_str (qa_cons qe_str (qa_cons qe_str (qa_cons qe_str (qa_cons qe_str (qa_cons qe_str (qa_cons qe_str (qa_cons qe_str (qa_cons qe_str (qa_cons qe_str (qa_cons qe_str (qa_cons qe_str (qa_cons qe_str (qa_cons qe_str qa_nil)))))))))))))))))))
      (qss_cons (qs_set (i := 8) sc__law_changed.nd rfl (.inl rfl) (qe_op (od_add false) (qv 8) (qe_lst false (qa_cons qe_str (qa_cons qe_str (qa_cons qe_str (qa_cons qe_str (qa_cons qe_str (qa_cons qe_str (qa_cons qe_str (qa_cons qe_str (qa_cons qe_str (qa_cons qe_str (qa_cons (qe_op od_mulS qe_str qe_int) (qa_cons qe_str (qa_cons qe_str qa_nil))))))))))))))))
      (qss_cons (qs_set (i := 9) sc__law_changed.nd rfl (.inl rfl) (qe_ix xd_ix (qv 8) (qe_call (ok__law_pull T) (hr.mono (by omega)) rfl T.g__law_pull T.F__law_pull.kp T.b__law_pull (qa_cons (qv 0) (qa_cons qe_int qa_nil))) (fun _ _ => rfl)))
      (qss_cons (qs_asg (qe_ix xd_ix (qe_lst false (qa_cons (qe_lst true qa_nil) (qa_cons (qe_lst true (qa_cons (qe_ix xd_ix (qv 6) (qv 7) (fun _ _ => rfl)) (qa_cons (qe_ix xd_ix (qv 6) (qv 7) (fun _ _ => rfl)) qa_nil))) (qa_cons (qe_lst true (qa_cons (qv 9) qa_nil)) (qa_cons (qe_lst true (qa_cons (qv 9) (qa_cons (qe_ix xd_ix (qv 6) (qv 7) (fun _ _ => rfl)) qa_nil))) (qa_cons (qe_rev true (qe_slice false (qv 6) (qo_some (qv 7)) (qo_some (qe_op (od_add false) (qv 7) qe_int)))) qa_nil)))))) (qe_op od_sub (qv 5) qe_int) (fun _ _ => rfl)) (qg_subSl (qv 6) (qo_some (qv 7)) (qo_some (qe_op (od_add false) (qv 7) qe_int))))
      (qss_one (qs_ret (qe_m PySem.F.plainAttrs_str PySem.F.slot_str_join PySem.F.type_str_join md_join qe_str (qa_cons (qv 6) qa_nil))))))))))))))), fun ds G R h => ?_⟩)
  · obtain ⟨s, z, n, o, rfl, _⟩ := h; rfl
  · obtain ⟨s, z, n, o, rfl, es, ho, hn, hl, hpy, h⟩ := h
    have hsl : (" /=;[](){}0123456789abchxAZ_-+.,:\t" : Str).length = 34 := by decide +kernel
    refine seq_cut (fun σ' G' => σ' = [some (.ref s), some (.str z), some (.str " /=;[](){}0123456789abchxAZ_-+.,:\t"), none, none, none, none, none, none, none] ∧ G' = G) ?_ (fun N1 hN1 => ?_)
    rotate_left
    · walk_at "go"
      exact hN1 _ _ ⟨rfl, rfl⟩
    rintro σ G1 ⟨rfl, rfl⟩
    refine seq_cut (fun σ' G' => ∃ (g : Str) (o1 : GO), σ' = [some (.ref s), some (.str z), some (.str " /=;[](){}0123456789abchxAZ_-+.,:\t"), some (.str g), none, none, none, none, none, none] ∧ G' = gup G1 s o1 ∧ SackO (n + 1) o1 ∧ g.length ≤ 1 ∧ pyD (.str g) = true) ?_ (fun N1 hN1 => ?_)
    rotate_left
    · walk_at "go"
      rw [hsl]
      refine ⟨n, o, es, ho, by omega, by decide, by decide, fun r o1 hr1 ho1 => ?_⟩
      walk_at "go"
      obtain ⟨c, hc, hcm⟩ := at_lt (l := (Str.ofString " /=;[](){}0123456789abchxAZ_-+.,:\t").cps.toList) (show r < _ by rw [show (Str.ofString " /=;[](){}0123456789abchxAZ_-+.,:\t").cps.toList.length = 34 by decide +kernel]; omega)
      rw [hc]
      exact hN1 _ _ ⟨⟨#[c]⟩, o1, rfl, rfl, ho1, Nat.le_refl _, chr_py hcm (by decide +kernel)⟩
    rintro σ G2 ⟨g, o1, rfl, rfl, ho1, hg1, hg2⟩
    refine seq_cut (fun σ' G' => ∃ (k : Nat) (o2 : GO), σ' = [some (.ref s), some (.str z), some (.str " /=;[](){}0123456789abchxAZ_-+.,:\t"), some (.str g), some (.int (k : Nat)), none, none, none, none, none] ∧ G' = gup G1 s o2 ∧ SackO (n + 2) o2 ∧ k ≤ z.length) ?_ (fun N1 hN1 => ?_)
    rotate_left
    · walk_at "go"
      refine (show z.length ≤ sizeLine ∧ _ from ⟨by rw [sizeLine_eq]; omega, ?_⟩)
      dsimp only [dAdd_ii]
      refine ⟨_, _, gup_same, ho1, by omega, by omega, by omega, fun r o2 hr2 ho2 => ?_⟩
      rw [gup_gup]
      walk_at "go"
      exact hN1 _ _ ⟨r, o2, rfl, rfl, ho2, by omega⟩
    rintro σ G3 ⟨k, o2, rfl, rfl, ho2, hk⟩
    refine seq_cut (fun σ' G' => ∃ (v : Nat) (o3 : GO), σ' = [some (.ref s), some (.str z), some (.str " /=;[](){}0123456789abchxAZ_-+.,:\t"), some (.str g), some (.int (k : Nat)), some (.int (v : Nat)), none, none, none, none] ∧ G' = gup G1 s o3 ∧ SackO (n + 3) o3 ∧ v < 8) ?_ (fun N1 hN1 => ?_)
    rotate_left
    · walk_at "go"
      refine ⟨_, _, gup_same, ho2, by omega, by decide, by decide, fun r o3 hr3 ho3 => ?_⟩
      rw [gup_gup]
      exact hN1 _ _ ⟨r, o3, rfl, rfl, ho3, by omega⟩
    rintro σ G4 ⟨v, o3, rfl, rfl, ho3, hv⟩
    by_cases hv3 : v < 3
    · walk_at "go"
      rw [if_pos (by omega)]
      have hz1 := cutS_take z k
      have hp1 := cutS_py (lo := none) (hi := some (k : Int)) hpy
      refine ⟨by rw [sizeLine_eq]; omega, by decide, ?_⟩
      have key : ∀ (x : Str) (j : Nat), x.length ≤ 1 → pyD (.str x) = true → dAdd false (D.str (cutS z none (some (k : Int)))) (.str x) (gup G1 s o3) (fun x G1 => z.length ≤ sizeLine ∧ dAdd false x (D.str (cutS z (some ((k : Int) + (j : Nat))) none)) G1 fun d G1 => Rt R d G1) := fun x j hx1 hx2 => by
        have hz2 := cutS_drop z (k + j)
        have hp2 := cutS_py (lo := some ((k + j : Nat) : Int)) (hi := none) hpy
        rw [Int.natCast_add] at hz2 hp2
        rw [dAdd_ss]
        refine ⟨by rw [sizeLine_eq]; omega, by rw [sizeLine_eq]; omega, ?_⟩
        rw [dAdd_ss]
        refine ⟨by rw [app_len, sizeLine_eq]; omega, ?_⟩
        refine rt_same (h _ o3 (py_app (py_app hp1 hx2) hp2) (.inr ?_) (ho3.mono (by omega)))
        rw [app_len, app_len]
        omega
      rcases (show v = 0 ∨ v = 1 ∨ v = 2 by omega) with rfl | rfl | rfl
      · exact key g 0 hg1 hg2
      · exact key "" 1 (by decide) (py_of _)
      · exact key g 1 hg1 hg2
    refine seq_cut (fun σ' G' => σ' = [some (.ref s), some (.str z), some (.str " /=;[](){}0123456789abchxAZ_-+.,:\t"), some (.str g), some (.int (k : Nat)), some (.int (v : Nat)), none, none, none, none] ∧ G' = gup G1 s o3) ?_ (fun N1 hN1 => ?_)
    rotate_left
    · walk_at "go"
      rw [if_neg (by omega)]
      exact hN1 _ _ ⟨rfl, rfl⟩
    rintro σ G5 ⟨rfl, rfl⟩
    obtain ⟨ws, hW⟩ := words_of z
    have hwp : ∀ x ∈ ws, pyD (.str x) = true := fun x hx => by
      simp only [pyD] at hpy ⊢
      exact List.all_eq_true.mpr fun c hc => List.all_eq_true.mp hpy c (hW.cp x hx c hc)
    have hln := hW.ln
    have hwl := hW.wl
    have hzL : z.length + 1 = wsL ws := by rw [← join_wsL ws hW.ne, ← hW.jn]
    refine seq_cut (fun σ' G' => ∃ p, σ' = [some (.ref s), some (.str z), some (.str " /=;[](){}0123456789abchxAZ_-+.,:\t"), some (.str g), some (.int (k : Nat)), some (.int (v : Nat)), some (.ref p), none, none, none] ∧ DL.Sub (gup G1 s o3) G' ∧ G' s = some o3 ∧ p ≠ s ∧ G1 p = none ∧ G' p = some (.lst (ws.map D.str))) ?_ (fun N1 hN1 => ?_)
    rotate_left
    · walk_at "go"
      refine ⟨by decide +kernel, by rw [sizeLine_eq]; omega, ?_⟩
      rw [hW.eq]
      rw [newL_t]
      intro p np
      have nps : p ≠ s := fun e => by rw [e, gup_same] at np; cases np
      exact hN1 _ _ ⟨p, rfl, DL.Sub.new np, by rw [gup_ne (Ne.symm nps)]; exact gup_same, nps, by rw [gup_ne nps] at np; exact np, gup_same⟩
    rintro σ G6 ⟨p, rfl, sb, es6, nps, npG, ep⟩
    refine seq_cut (fun σ' G' => ∃ (j : Nat) (o4 : GO), σ' = [some (.ref s), some (.str z), some (.str " /=;[](){}0123456789abchxAZ_-+.,:\t"), some (.str g), some (.int (k : Nat)), some (.int (v : Nat)), some (.ref p), some (.int (j : Nat)), none, none] ∧ DL.Sub (gup G1 s o4) G' ∧ G' s = some o4 ∧ G' p = some (.lst (ws.map D.str)) ∧ SackO (n + 4) o4 ∧ j < ws.length) ?_ (fun N1 hN1 => ?_)
    rotate_left
    · walk_at "go"
      refine (len_ref ep).mpr ?_
      rw [List.length_map]
      have hpos : 0 < ws.length := List.length_pos_iff.mpr hW.ne
      refine ⟨_, _, es6, ho3, by omega, by omega, by omega, fun r o4 hr4 ho4 => ?_⟩
      exact hN1 _ _ ⟨r, o4, rfl, sub_up sb, gup_same, by rw [gup_ne nps]; exact ep, ho4, by omega⟩
    rintro σ G7 ⟨j, o4, rfl, sb7, es7, ep7, ho4, hj⟩
    refine seq_cut (fun σ' G' => σ' = [some (.ref s), some (.str z), some (.str " /=;[](){}0123456789abchxAZ_-+.,:\t"), some (.str g), some (.int (k : Nat)), some (.int (v : Nat)), some (.ref p), some (.int (j : Nat)), some (.lst (odd1.map D.str)), none] ∧ G' = G7) ?_ (fun N1 hN1 => ?_)
    rotate_left
    · walk_at "go"
      exact hN1 _ _ ⟨rfl, rfl⟩
    rintro σ G8 ⟨rfl, rfl⟩
    refine seq_cut (fun σ' G' => σ' = [some (.ref s), some (.str z), some (.str " /=;[](){}0123456789abchxAZ_-+.,:\t"), some (.str g), some (.int (k : Nat)), some (.int (v : Nat)), some (.ref p), some (.int (j : Nat)), some (.lst ((odd1 ++ odd2).map D.str)), none] ∧ G' = G8) ?_ (fun N1 hN1 => ?_)
    rotate_left
    · walk_at "go"
      rw [show Txt.mul (Str.ofString "1") 60 = Str.ofString "111111111111111111111111111111111111111111111111111111111111" by decide +kernel]
      refine ⟨by decide, ?_⟩
      exact hN1 _ _ ⟨rfl, rfl⟩
    rintro σ G9 ⟨rfl, rfl⟩
    refine seq_cut (fun σ' G' => ∃ (w : Str) (o5 : GO), σ' = [some (.ref s), some (.str z), some (.str " /=;[](){}0123456789abchxAZ_-+.,:\t"), some (.str g), some (.int (k : Nat)), some (.int (v : Nat)), some (.ref p), some (.int (j : Nat)), some (.lst ((odd1 ++ odd2).map D.str)), some (.str w)] ∧ DL.Sub (gup G1 s o5) G' ∧ G' p = some (.lst (ws.map D.str)) ∧ SackO (n + 5) o5 ∧ w.length ≤ 60 ∧ pyD (.str w) = true) ?_ (fun N1 hN1 => ?_)
    rotate_left
    · walk_at "go"
      refine ⟨_, _, es7, ho4, by omega, by decide, by decide, fun r o5 hr5 ho5 => ?_⟩
      obtain ⟨w, hw, hwm⟩ := at_lt (l := odd1 ++ odd2) (r := r) (by rw [show (odd1 ++ odd2).length = 30 by decide]; omega)
      have hw2 : atI ((odd1 ++ odd2).map D.str) (r : Int) = some (.str w) := atI_map hw
      rw [ix_l, hw2, isN_some]
      exact hN1 _ _ ⟨w, o5, rfl, sub_up sb7, by rw [gup_ne nps]; exact ep7, ho5, odd_ok w hwm, odd_py w hwm⟩
    rintro σ G10 ⟨w, o5, rfl, sb10, ep10, ho5, hw1, hw2⟩
    refine seq_cut (fun σ' G' => ∃ (vs : List Str), σ' = [some (.ref s), some (.str z), some (.str " /=;[](){}0123456789abchxAZ_-+.,:\t"), some (.str g), some (.int (k : Nat)), some (.int (v : Nat)), some (.ref p), some (.int (j : Nat)), some (.lst ((odd1 ++ odd2).map D.str)), some (.str w)] ∧ DL.Sub (gup G1 s o5) G' ∧ G' p = some (.lst (vs.map D.str)) ∧ (∀ x ∈ vs, pyD (.str x) = true) ∧ vs.length ≤ 6000 ∧ (wsL vs ≤ 2 * z.length + 2 ∨ wsL vs ≤ z.length + 62)) ?_ (fun N1 hN1 => ?_)
    rotate_left
    · obtain ⟨wj, hwj, hwjm⟩ := at_lt hj
      have hwj2 : atI (ws.map D.str) (j : Int) = some (.str wj) := atI_map hwj
      walk_at "go"
      rename_i p0 n0
      have fin : ∀ (Gf : Gp) (b : Addr) (zs : List Str), p ≠ b → DL.Sub G10 Gf → Gf p = some (.lst (ws.map D.str)) → Gf b = some (.lst (zs.map D.str)) → (∀ x ∈ zs, pyD (.str x) = true) → zs.length ≤ 2 → (wsL zs ≤ 2 * wj.length + 2 ∨ wsL zs ≤ wj.length + 62 ∨ wsL zs ≤ wj.length + z.length + 2) →
          ∃ (p_5 b' : Addr) (xs ys : List D) (a c : Int), D.ref p = D.ref p_5 ∧ D.ref b = D.ref b' ∧ p_5 ≠ b' ∧ Gf p_5 = some (.lst xs) ∧ Gf b' = some (.lst ys) ∧ some (j : Int) = some a ∧ some ((j : Int) + 1) = some c ∧ 0 ≤ a ∧ a ≤ c ∧ c ≤ xs.length ∧ xs.length + ys.length ≤ sizeLine ∧
          N1 [some (.ref s), some (.str z), some (.str " /=;[](){}0123456789abchxAZ_-+.,:\t"), some (.str g), some (.int (k : Nat)), some (.int (v : Nat)), some (.ref p), some (.int (j : Nat)), some (.lst ((odd1 ++ odd2).map D.str)), some (.str w)] (gup Gf p_5 (.lst (xs.take a.toNat ++ ys ++ xs.drop c.toNat))) := fun Gf b zs q sG ep' eb hzp hzl hzw => by
        refine ⟨p, b, _, _, (j : Int), (j : Int) + 1, rfl, rfl, q, ep', eb, rfl, rfl, by omega, by omega, by rw [List.length_map]; omega, by rw [List.length_map, List.length_map, sizeLine_eq]; omega, ?_⟩
        have hsp : ws = ws.take j ++ [wj] ++ ws.drop (j + 1) := by
          have hg : ws[j] = wj := by
            have := (atI_nat (List.getElem?_eq_getElem hj)).symm.trans hwj
            exact Option.some.inj this
          rw [← hg, List.append_assoc, List.singleton_append, ← List.drop_eq_getElem_cons hj, List.take_append_drop]
        have hLL : wsL ws = wsL (ws.take j) + (wj.length + 1) + wsL (ws.drop (j + 1)) := by
          have := congrArg wsL hsp
          rw [wsL_app, wsL_app, wsL_one] at this
          exact this
        have hwjl := hwl wj hwjm
        refine hN1 _ _ ⟨ws.take j ++ zs ++ ws.drop (j + 1), rfl, fun b u hb => ?_, ?_, fun x hx => ?_, ?_, ?_⟩
        · by_cases e : b = p
          · subst e; rw [gup_ne nps, npG] at hb; cases hb
          · rw [gup_ne e]; exact sG b u (sb10 b u hb)
        · rw [gup_same, List.map_append, List.map_append, List.map_take, List.map_drop, Int.toNat_natCast, show ((j : Int) + 1).toNat = j + 1 by omega]
        · rcases List.mem_append.mp hx with hx | hx
          · rcases List.mem_append.mp hx with hx | hx
            · exact hwp x (List.mem_of_mem_take hx)
            · exact hzp x hx
          · exact hwp x (List.mem_of_mem_drop hx)
        · rw [List.length_append, List.length_append, List.length_take, List.length_drop]; omega
        · rw [wsL_app, wsL_app]; omega
      have q0 : p ≠ p0 := fun e => by rw [← e, ep10] at n0; cases n0
      have e0 : gup G10 p0 (.lst []) p = some (.lst (ws.map D.str)) := by rw [gup_ne q0]; exact ep10
      have s0 : DL.Sub G10 (gup G10 p0 (.lst [])) := DL.Sub.new n0
      have m0 : gup G10 p0 (.lst []) p0 = some (.lst []) := gup_same
      generalize gup G10 p0 (.lst []) = Ga at e0 s0 m0 ⊢
      simp only [atL, e0, hwj2, isN_some]
      refine ⟨by decide, fun p1 n1 => ⟨by decide, fun p2 n2 => ?_⟩⟩
      have q1 : p ≠ p1 := fun e => by rw [← e, e0] at n1; cases n1
      have e1 : gup Ga p1 (.lst [D.str wj, D.str wj]) p = some (.lst (ws.map D.str)) := by rw [gup_ne q1]; exact e0
      have s1 : DL.Sub Ga (gup Ga p1 (.lst [D.str wj, D.str wj])) := DL.Sub.new n1
      have m1 : gup Ga p1 (.lst [D.str wj, D.str wj]) p1 = some (.lst [D.str wj, D.str wj]) := gup_same
      generalize gup Ga p1 (.lst [D.str wj, D.str wj]) = Gb at e1 s1 m1 n2 ⊢
      have q2 : p ≠ p2 := fun e => by rw [← e, e1] at n2; cases n2
      have e2 : gup Gb p2 (.lst [D.str w]) p = some (.lst (ws.map D.str)) := by rw [gup_ne q2]; exact e1
      have s2 : DL.Sub Gb (gup Gb p2 (.lst [D.str w])) := DL.Sub.new n2
      have m2 : gup Gb p2 (.lst [D.str w]) p2 = some (.lst [D.str w]) := gup_same
      generalize gup Gb p2 (.lst [D.str w]) = Gc at e2 s2 m2 ⊢
      simp only [e2, hwj2, isN_some]
      refine ⟨by decide, fun p3 n3 => ?_⟩
      have q3 : p ≠ p3 := fun e => by rw [← e, e2] at n3; cases n3
      have e3 : gup Gc p3 (.lst [D.str w, D.str wj]) p = some (.lst (ws.map D.str)) := by rw [gup_ne q3]; exact e2
      have s3 : DL.Sub Gc (gup Gc p3 (.lst [D.str w, D.str wj])) := DL.Sub.new n3
      have m3 : gup Gc p3 (.lst [D.str w, D.str wj]) p3 = some (.lst [D.str w, D.str wj]) := gup_same
      generalize gup Gc p3 (.lst [D.str w, D.str wj]) = Gd at e3 s3 m3 ⊢
      refine (show dSl false (D.ref p) (some (j : Int)) (some ((j : Int) + 2)) Gd _ ↔ _ from by unfold dSl; simp only [lstOf, e3]; exact Iff.rfl).mpr ?_
      rw [newL_f]
      dsimp only
      intro p4 n4
      refine ⟨by decide, ?_⟩
      have q4 : p ≠ p4 := fun e => by rw [← e, e3] at n4; cases n4
      have hzs : ∃ zs : List Str, (cutL (ws.map D.str) (some (j : Int)) (some ((j : Int) + 2))).reverse = zs.map D.str ∧ (∀ x ∈ zs, x ∈ ws) ∧ zs.length ≤ 2 ∧ wsL zs ≤ wj.length + z.length + 2 := by
        have hd : ws.drop j = wj :: ws.drop (j + 1) := by
          have hg : ws[j] = wj := by
            have := (atI_nat (List.getElem?_eq_getElem hj)).symm.trans hwj
            exact Option.some.inj this
          rw [← hg]; exact List.drop_eq_getElem_cons hj
        have hc : cutL ws (some (j : Int)) (some ((j : Int) + 2)) = (ws.drop j).take 2 := by
          unfold cutL
          rw [show ((j : Int) + 2) = ((j + 2 : Nat) : Int) by omega, HT.sIx_nat, HT.sIx_nat]
          rw [show min j ws.length = j by omega]
          by_cases h2 : j + 2 ≤ ws.length
          · rw [show min (j + 2) ws.length - j = 2 by omega]
          · rw [List.take_of_length_le (by rw [List.length_drop]; omega), List.take_of_length_le (by rw [List.length_drop]; omega)]
        rw [cutX_map, hc, hd]
        cases hr : ws.drop (j + 1) with
        | nil => exact ⟨[wj], rfl, fun x hx => by rw [List.mem_singleton.mp hx]; exact hwjm, by simp, by rw [wsL_one]; omega⟩
        | cons w2 r =>
          have hw2m : w2 ∈ ws := List.mem_of_mem_drop (i := j + 1) (by rw [hr]; exact List.mem_cons_self)
          have := hwl w2 hw2m
          refine ⟨[w2, wj], rfl, fun x hx => ?_, by simp, by rw [wsL_cons, wsL_one]; omega⟩
          simp only [List.mem_cons, List.not_mem_nil, or_false] at hx
          rcases hx with rfl | rfl
          · exact hw2m
          · exact hwjm
      obtain ⟨zs, hzr, hzm, hzl, hzw⟩ := hzs
      rw [hzr]
      have e4 : gup Gd p4 (.lst (zs.map D.str)) p = some (.lst (ws.map D.str)) := by rw [gup_ne q4]; exact e3
      have s4 : DL.Sub Gd (gup Gd p4 (.lst (zs.map D.str))) := DL.Sub.new n4
      have m4 : gup Gd p4 (.lst (zs.map D.str)) p4 = some (.lst (zs.map D.str)) := gup_same
      generalize gup Gd p4 (.lst (zs.map D.str)) = Ge at e4 s4 m4 ⊢
      have hsub : DL.Sub G10 Ge := fun b u hb => s4 b u (s3 b u (s2 b u (s1 b u (s0 b u hb))))
      have hwjp := hwp wj hwjm
      rcases (show v = 3 ∨ v = 4 ∨ v = 5 ∨ v = 6 ∨ v = 7 by omega) with rfl | rfl | rfl | rfl | rfl
      · rw [show (((3 : Nat) : Int) - 3) = 0 from rfl, at_0, isN_some]
        exact fin Ge p0 [] q0 hsub e4 (s4 _ _ (s3 _ _ (s2 _ _ (s1 _ _ m0)))) (fun x hx => by cases hx) (by simp) (.inl (by simp [wsL]))
      · rw [show (((4 : Nat) : Int) - 3) = 1 from rfl, at_1, isN_some]
        exact fin Ge p1 [wj, wj] q1 hsub e4 (s4 _ _ (s3 _ _ (s2 _ _ m1))) (fun x hx => by simp at hx; rw [hx]; exact hwjp) (by simp) (.inl (by rw [wsL_cons, wsL_one]; omega))
      · rw [show (((5 : Nat) : Int) - 3) = 2 from rfl, at_2, isN_some]
        exact fin Ge p2 [w] q2 hsub e4 (s4 _ _ (s3 _ _ m2)) (fun x hx => by simp at hx; rw [hx]; exact hw2) (by simp) (.inr (.inl (by rw [wsL_one]; omega)))
      · rw [show (((6 : Nat) : Int) - 3) = 3 from rfl, at_3, isN_some]
        exact fin Ge p3 [w, wj] q3 hsub e4 (s4 _ _ m3) (fun x hx => by simp at hx; rcases hx with rfl | rfl; exact hw2; exact hwjp) (by simp) (.inr (.inl (by rw [wsL_cons, wsL_one]; omega)))
      · rw [show (((7 : Nat) : Int) - 3) = 4 from rfl, at_4, isN_some]
        exact fin Ge p4 zs q4 hsub e4 m4 (fun x hx => hwp x (hzm x hx)) hzl (.inr (.inr hzw))
    rintro σ G11 ⟨vs, rfl, sb11, ep11, hvp, hvl, hv2⟩
    have hjl := join_wsL0 vs
    have hjp := py_join (sep := " ") (py_of _) hvp
    walk_at "go"
    refine join_gor ep11 (strsOf_strs vs) ?_ ?_
    · have : (vs.map fun z : Str => z.length).sum ≤ wsL vs := by
        unfold wsL
        exact sum_le_sum vs
      rw [show (Str.ofString " ").length = 1 by decide +kernel]
      omega
    · refine rt_sub sb11 ?_
      exact h _ _ hjp (by omega) ho5
end K15


set_option Elab.async false
set_option linter.all false
set_option maxRecDepth 100000
set_option maxHeartbeats 4000000
set_option autoImplicit false
namespace K15
open PySem PySem.Spec PyProof.Rows L2 DL
local macro_rules | `(tactic| walk_at "d") => `(tactic| dsimp only [dSeq, dNext, dIfS, dRet, dRetN, dAsg, dName, dVar, dC, dOp, dUn, dChain, dB, dAnd, dOr, dNot, dAndV, dOrV, dNotV, dIf, dNil, dCons, dTup, dLst, newL, dCallB, dCall, dCallK, dDrop, dAug, dAugS, dSub, dM, dM0, dSlice, dNoPart, dPart, dLc, dYes, dFor, dIter, dRng1, dEnum, dZipM, srcD, dStar, dInK, dIxK, dLenSet, dRev,
  startD, wipeD, setAll, dNames, List.map_cons, List.map_nil, List.length_cons, List.length_nil, List.replicate, List.cons_append, List.nil_append, List.append_nil, List.getElem?_cons_zero, List.getElem?_cons_succ, List.set_cons_zero, List.set_cons_succ, List.map, Nat.zero_add, Nat.reduceAdd, Nat.reduceSub, Nat.sub_self, Nat.succ_sub_succ_eq_sub])
local macro_rules | `(tactic| walk_at "o") => `(tactic| simp only [dAdd_ii, dAdd_ss, dAdd_tt, dAdd_ll, dMinus_ii, dMul_ii, dMod_ii, dFdiv_ii, dPow_ii, dShl_ii, dNeg_i, dIadd_ii, dLt_ii, dLe_ii, dGt_ii, dGe_ii, dEq_ii, dNe_ii, dEq_ss, dNe_ss, dEq_bb, dNe_bb, dIs_n, dIsNot_n, dMax2_ii, dMin2_ii, dTuple_t, dTuple_l, dList_t, dList_l, dIx_t, dIx_l, dIx_s, dSl_t, dSl_l, dSl_s, newL_f, len_tup, len_lst])
local macro_rules | `(tactic| walk_at "w") => `(tactic| dsimp only [x_var, x_c, x_op, x_un, x_b, x_and, x_or, x_not, x_chain, x_andV, x_orV, x_notV, x_if, x_nil, x_cons, x_tup, x_lst0, x_lst1, x_callB, x_call, x_callK, x_next, x_seq, x_break, x_cont, x_drop, x_ret, x_ifS, x_asg, x_name, x_names, x_sub, x_aug, x_augS, x_for, x_lc0, x_lc1, x_yes, x_noPart, x_part, x_slice, x_iter, it_t, it_l, it_n, it_s, it_r, x_rng1, x_enum, x_rev, x_m, x_m0, x_mX, x_zip, x_star_t, x_star_l, x_lenSet, x_forgo0, x_lcgo0, x_while, x_par, x_sortK,
  br_t, br_f, isB_bl, isI_int, isN_some, slo_some, atL_lst, ix_t, ix_l, ix_n,
  dAdd_ii, dAdd_ss, dAdd_tt, dAdd_ll, dMinus_ii, dMul_ii, dMod_ii, dFdiv_ii, dPow_ii, dShl_ii, dNeg_i, dIadd_ii, dLt_ii, dLe_ii, dGt_ii, dGe_ii, ltE_ii, ltE_ss, srcD, isi_i, isi_s, isi_b, isi_n, isi_t, isi_nt, isi_l, isi2_i, isi2_s, isi2_b, isi2_n, isi2_t, isi2_nt, isi2_l, inon_n, inon_i, inon_s, inon_b, inon_t, inon_l, inon_r, dEq_ii, dNe_ii, dEq_ss, dNe_ss, dEq_bb, dNe_bb, dIs_n, dIsNot_n, dMax2_ii, dMin2_ii, dTuple_t, dTuple_l, dList_t, dList_l, dSl_t, dSl_l, dSl_s, newL_f, newL_t, app_r, int_b, int_i, strI_i, strX_i, strX_s,
  startD, wipeD, setAll, permL, List.filterMap, List.map_cons, List.map_nil, List.length_cons, List.length_nil, List.replicate, List.cons_append, List.nil_append, List.append_nil, List.getElem?_cons_zero, List.getElem?_cons_succ, List.set_cons_zero, List.set_cons_succ, List.map, Nat.zero_add, Nat.reduceAdd, Nat.reduceSub, Nat.sub_self, Nat.succ_sub_succ_eq_sub])
local macro_rules | `(tactic| walk_at "v") => `(tactic| simp only [ofString_inj, String.reduceEq, at_0, at_1, at_2, at_3, at_4, at_5, isN_some, isBB_bl, isB_bl, br_t, br_f, br_not, br_and, br_or, br_dec, ix_r, len_tup, len_lst, len_nt, ltE_key, gup_gup, gup_same, starD_one, cut1, cut2, kt1, kt2, kt3, kt4, kt5, kt6, isTy, String.reduceBEq, Bool.or_false, Bool.false_or, Bool.true_or, Bool.or_true, Bool.and_false, Bool.false_and, Bool.true_and, Bool.and_true, Bool.not_true, Bool.not_false, decide_true, decide_false, eq_self_iff_true, Bool.false_eq_true, Int.reduceAdd, Int.add_zero, if_true, if_false, true_and, and_true])
local macro_rules | `(tactic| walk_at "side") => `(tactic| first | with_reducible assumption | omega | exact mty_up | exact True.intro | (simp only [List.mem_cons, ofString_inj, String.reduceEq, true_or, or_true, List.length_map]; done) | with_reducible exact (rfl : (_ : Nat) = _) | exact (rfl : (_ : Option String) = _) | (refine small_line ?_; omega) | (walk_at "ll"; first | omega | (refine small_line ?_; omega) | fail) | (exact log_small (by omega)) | fail)
local macro_rules | `(tactic| walk_at "x") => `(tactic| fail)
local macro_rules | `(tactic| walk_at "go") => `(tactic| repeat' (first | dsimp only [x_var, x_c, x_op, x_un, x_b, x_and, x_or, x_not, x_chain, x_andV, x_orV, x_notV, x_if, x_nil, x_cons, x_tup, x_lst0, x_lst1, x_callB, x_call, x_callK, x_next, x_seq, x_break, x_cont, x_drop, x_ret, x_ifS, x_asg, x_name, x_names, x_sub, x_aug, x_augS, x_for, x_lc0, x_lc1, x_yes, x_noPart, x_part, x_slice, x_iter, it_t, it_l, it_n, it_s, it_r, x_rng1, x_enum, x_rev, x_m, x_m0, x_mX, x_zip, x_star_t, x_star_l, x_lenSet, x_forgo0, x_lcgo0, x_while, x_par, x_sortK, br_t, br_f, isB_bl, isI_int, isN_some, slo_some, atL_lst, ix_t, ix_l, ix_n, dAdd_ii, dAdd_ss, dAdd_tt, dAdd_ll, dMinus_ii, dMul_ii, dMod_ii, dFdiv_ii, dPow_ii, dShl_ii, dNeg_i, dIadd_ii, dLt_ii, dLe_ii, dGt_ii, dGe_ii, ltE_ii, ltE_ss, srcD, isi_i, isi_s, isi_b, isi_n, isi_t, isi_nt, isi_l, isi2_i, isi2_s, isi2_b, isi2_n, isi2_t, isi2_nt, isi2_l, inon_n, inon_i, inon_s, inon_b, inon_t, inon_l, inon_r, dEq_ii, dNe_ii, dEq_ss, dNe_ss, dEq_bb, dNe_bb, dIs_n, dIsNot_n, dMax2_ii, dMin2_ii, dTuple_t, dTuple_l, dList_t, dList_l, dSl_t, dSl_l, dSl_s, newL_f, newL_t, app_r, int_b, int_i, strI_i, strX_i, strX_s, startD, wipeD, setAll, permL, List.filterMap, List.map_cons, List.map_nil, List.length_cons, List.length_nil, List.replicate, List.cons_append, List.nil_append, List.append_nil, List.getElem?_cons_zero, List.getElem?_cons_succ, List.set_cons_zero, List.set_cons_succ, List.map, Nat.zero_add, Nat.reduceAdd, Nat.reduceSub, Nat.sub_self, Nat.succ_sub_succ_eq_sub] | simp only [ofString_inj, String.reduceEq, at_0, at_1, at_2, at_3, at_4, at_5, isN_some, isBB_bl, isB_bl, br_t, br_f, br_not, br_and, br_or, br_dec, ix_r, len_tup, len_lst, len_nt, ltE_key, gup_gup, gup_same, starD_one, cut1, cut2, kt1, kt2, kt3, kt4, kt5, kt6, isTy, String.reduceBEq, Bool.or_false, Bool.false_or, Bool.true_or, Bool.or_true, Bool.and_false, Bool.false_and, Bool.true_and, Bool.and_true, Bool.not_true, Bool.not_false, decide_true, decide_false, eq_self_iff_true, Bool.false_eq_true, Int.reduceAdd, Int.add_zero, if_true, if_false, true_and, and_true] | walk_at "x" | with_reducible refine kont_go ?_ | with_reducible refine rt_sub (by assumption) ?_ | with_reducible refine rt_lst (by assumption) ?_ | with_reducible refine rt_drop (by assumption) ?_ | with_reducible refine rt_keep (by assumption) (by assumption) ?_ | with_reducible refine rt_same ?_ | (refine fun (p : Addr) (_ : _ = none) => ?_) | refine join_gor gup_same rfl (by walk_at "side") ?_ | with_reducible refine lc_cons ?_ | with_reducible refine for_cons ?_ | refine join_go rfl (by walk_at "side") ?_ | refine And.intro (by first | with_reducible assumption | omega | exact mty_up | exact True.intro | (simp only [List.mem_cons, ofString_inj, String.reduceEq, true_or, or_true, List.length_map]; done) | with_reducible exact (rfl : (_ : Nat) = _) | exact (rfl : (_ : Option String) = _) | (refine small_line ?_; omega) | (walk_at "ll"; first | omega | (refine small_line ?_; omega) | fail) | (exact log_small (by omega)) | fail) ?_ | fail))
local macro_rules | `(tactic| walk_at "ll") => `(tactic| simp only [List.length_map, List.length_append, List.length_cons, List.length_nil, List.map_cons, List.map_nil, List.sum_cons, List.sum_nil, len_app, rng_length, ll_0, ll_1, ll_2, ll_3, ll_4, ll_5, ll_6, ll_7, ll_8, ll_9, ll_10, ll_11, ll_12, ll_13, ll_14, ll_15, ll_16, ll_17, ll_18, ll_19, ll_20, ll_21, ll_22, ll_23, ll_24, ll_25, ll_26, ll_27, ll_28, ll_29, ll_30, ll_31, ll_32, ll_33, ll_34, ll_35, ll_36, ll_37, ll_38, ll_39, ll_40, ll_41, ll_42, ll_43, ll_44, ll_45, ll_46, ll_47, ll_48, ll_49, ll_50, ll_51, ll_52, ll_53, ll_54])
/-! ### the law's own right -/
theorem num_len3 : ∀ k : Fin 301, (numZ ((k.val : Nat) : Int)).length ≤ 3 ∧ (((k.val : Nat) : Int)).natAbs.log2 < 1920 := by decide +kernel
theorem numZ_len3 {z : Int} (h0 : 0 ≤ z) (h1 : z ≤ 300) : (numZ z).length ≤ 3 ∧ z.natAbs.log2 < 1920 := by
  have a := num_len3 ⟨z.toNat, by omega⟩
  dsimp only at a
  rw [show ((z.toNat : Nat) : Int) = z by omega] at a
  exact a
theorem numZ_py (z : Int) : pyD (.str (numZ z)) = true := py_of _
theorem name_pyN {z : Str} (h : nameOk z = true) : pyD (.str z) = true := by
  rw [py_str]
  intro c hc
  have := (nameOk_iff.mp h).2 c hc
  simp only [low, Bool.and_eq_true, decide_eq_true_eq] at this
  omega
theorem strs_py : ∀ {names : List Str}, (∀ z ∈ names, nameOk z = true) → pyDs (names.map D.str) = true ∧ wids (names.map D.str) = true ∧ depDs (names.map D.str) ≤ 1
  | [], _ => ⟨rfl, rfl, by simp [depDs]⟩
  | z :: r, h => by
    obtain ⟨h1, h2, h3⟩ := strs_py (names := r) fun y hy => h y (List.mem_cons_of_mem _ hy)
    simp only [List.map_cons, pyDs, wids, depDs, Bool.and_eq_true]
    exact ⟨⟨name_pyN (h z List.mem_cons_self), h1⟩, ⟨by simp [wid], h2⟩, by simp only [depD]; omega⟩
theorem name_len {z : Str} (h : nameOk z = true) : z.length ≤ 8 := by
  have := (nameOk_iff.mp h).1
  rw [cds_len] at this
  omega
theorem names_wsL : ∀ {zs : List Str}, (∀ z ∈ zs, nameOk z = true) → wsL zs ≤ 9 * zs.length
  | [], _ => Nat.le_refl _
  | z :: r, h => by
    have h1 := names_wsL (zs := r) fun y hy => h y (List.mem_cons_of_mem _ hy)
    have h2 := name_len (h z List.mem_cons_self)
    rw [wsL_cons, List.length_cons]
    omega
theorem mach_inj {b hh al mo c b2 hh2 al2 mo2 c2 : Int} {names nm2 : List Str} (M : MachP b names hh al mo c) (M2 : MachP b2 nm2 hh2 al2 mo2 c2) (e : mwords b names hh al mo c = mwords b2 nm2 hh2 al2 mo2 c2) : machD b names hh al mo c = machD b2 nm2 hh2 al2 mo2 c2 := by
  have hb1 := M.b1; have hb2 := M.b2; have hh1 := M.h1; have hh2 := M.h2; have ha1 := M.a1; have ha2 := M.a2; have hm1 := M.m1; have hm2 := M.m2; have hc1 := M.c1; have hc2 := M.c2
  have ht := top_le hb1 hb2
  have gb1 := M2.b1; have gb2 := M2.b2; have gh1 := M2.h1; have gh2 := M2.h2; have ga1 := M2.a1; have ga2 := M2.a2; have gm1 := M2.m1; have gm2 := M2.m2; have gc1 := M2.c1; have gc2 := M2.c2
  have gt := top_le gb1 gb2
  have key : ∀ {x y : Int}, 0 ≤ x → x ≤ 300 → 0 ≤ y → y ≤ 300 → numZ x = numZ y → x = y := fun h1 h2 h3 h4 q => by
    have := congrArg numN q
    rwa [numN_num h1 h2, numN_num h3 h4] at this
  obtain ⟨_, e1, _, en, _, e4, _, e6, _, e8, _, e10⟩ := mwords_inj (show [("bits" : Str), numZ b, "registers"] ++ names ++ [("hidden" : Str), numZ hh, "alus", numZ al, "moves", numZ mo, "cells", numZ c] = _ from e)
  rw [key (by omega) (by omega) (by omega) (by omega) e1, en, key (by omega) (by omega) (by omega) (by omega) e4, key (by omega) (by omega) (by omega) (by omega) e6, key (by omega) (by omega) (by omega) (by omega) e8, key (by omega) (by omega) (by omega) (by omega) e10]
def Small (x : Int) : Prop := 0 ≤ x ∧ x ≤ 300
def sp__law_right : DSp := fun ds G R => match ds with
  | [.ref s] => ∃ o, G s = some o ∧ SackO 0 o ∧ ∀ o', R (.bl true) (gup G s o')
  | _ => False
theorem ok__law_right {P : Program} {w : World} {K : PySem.W.Frag} {mg : Str → Option Value} {base : Heap} {a : Ad} (T : Tx w K mg a) : FnD P w K mg base 6 a.f__law_right a.fd__law_right ["sack"] sp__law_right := by
  refine fun_okD T.F__law_right sc__law_right (fun ds G R h => ?_) (fun cdv A outer s H hr => ⟨_, (qss_cons (qs_set (i := 1) sc__law_right.nd rfl (.inl rfl) (qe_call (ok__law_own T) (hr.mono (by omega)) rfl T.g__law_own T.F__law_own.kp T.b__law_own (qa_cons (qv 0) qa_nil)))
      (qss_cons (qs_set (i := 2) sc__law_right.nd rfl (.inl rfl) (qe_lst true (qa_cons (qe_ix xd_ix (qv 1) qe_int (fun _ _ => rfl)) (qa_cons (qe_ix xd_ix (qv 1) qe_int (fun _ _ => rfl)) (qa_cons (qe_ix xd_ix (qv 1) qe_int (fun _ _ => rfl)) (qa_cons (qe_ix xd_ix (qv 1) qe_int (fun _ _ => rfl)) (qa_cons (qe_ix xd_ix (qv 1) qe_int (fun _ _ => rfl)) qa_nil)))))))
      (qss_cons (qs_if (qt_cmp (od_eq hr.units) (qe_call (ok__law_pull T) (hr.mono (by omega)) rfl T.g__law_pull T.F__law_pull.kp T.b__law_pull (qa_cons (qv 0) (qa_cons qe_int qa_nil))) qe_int (nomark _))
      (qss_cons (qs_set (i := 3) sc__law_right.nd rfl (.inl rfl) (qe_call (ok__law_pull T) (hr.mono (by omega)) rfl T.g__law_pull T.F__law_pull.kp T.b__law_pull (qa_cons (qv 0) (qa_cons qe_int qa_nil))))
      (qss_one (qs_asg (qe_ix xd_ix (qe_lst false (qa_cons qe_int (qa_cons qe_int (qa_cons qe_int (qa_cons qe_int (qa_cons qe_int (qa_cons (qe_op (od_add false) (qe_op od_shl qe_int (qe_ix xd_ix (qv 1) qe_int (fun _ _ => rfl))) qe_int) qa_nil))))))) (qe_ix xd_ix (qe_lst false (qa_cons (qe_call (ok__law_pull T) (hr.mono (by omega)) rfl T.g__law_pull T.F__law_pull.kp T.b__law_pull (qa_cons (qv 0) (qa_cons qe_int qa_nil))) (qa_cons (qe_op (od_add false) (qv 3) (qe_callTy cd_int rfl T.n_int (by decide +kernel) (qa_cons (qe_cmp od_gt (qv 3) qe_int (nomark _)) qa_nil))) qa_nil))) (qe_call (ok__law_pull T) (hr.mono (by omega)) rfl T.g__law_pull T.F__law_pull.kp T.b__law_pull (qa_cons (qv 0) (qa_cons qe_int qa_nil))) (fun _ _ => rfl)) (fun _ _ => rfl)) (qg_sub (qv 2) (qv 3) sd_set))))
      qss_nil)
      (qss_cons (qs_set (i := 4) sc__law_right.nd rfl (.inl rfl) (qe_callTy (cd_list true) rfl T.n_list (by decide +kernel) (qa_cons (qe_ix xd_ix (qv 1) qe_int (fun _ _ => rfl)) qa_nil)))
      (qss_cons (qs_if (qt_cmp (od_eq hr.units) (qe_call (ok__law_pull T) (hr.mono (by omega)) rfl T.g__law_pull T.F__law_pull.kp T.b__law_pull (qa_cons (qv 0) (qa_cons qe_int qa_nil))) qe_int (nomark _))
      (qss_one (qs_set (i := 4) sc__law_right.nd rfl (.inl rfl) (qe_slice true (qe_op (od_rep false) (qv 4) qe_int) qo_none (qo_some (qe_op (od_add false) qe_int (qe_call (ok__law_pull T) (hr.mono (by omega)) rfl T.g__law_pull T.F__law_pull.kp T.b__law_pull (qa_cons (qv 0) (qa_cons qe_int qa_nil))))))))
      qss_nil)
      (qss_cons (qs_set (i := 5) sc__law_right.nd rfl (.inl rfl) (qe_op (od_add false) (qe_op (od_add false) (qe_op (od_add false) qe_str (qe_callTy cd_strX rfl T.n_str (by decide +kernel) (qa_cons (qe_ix xd_ix (qv 2) qe_int (fun _ _ => rfl)) qa_nil))) qe_str) (qe_m PySem.F.plainAttrs_str PySem.F.slot_str_join PySem.F.type_str_join md_join qe_str (qa_cons (qv 4) qa_nil))))
      (qss_cons (qs_for PassesOwn.never rfl (qi_zipM rfl T.n_zip (qa_cons (qe_lst false (qa_cons qe_str (qa_cons qe_str (qa_cons qe_str (qa_cons qe_str qa_nil))))) (qa_cons (qe_slice false (qv 2) (qo_some qe_int) qo_none) qa_nil))) (qg_of (pg_tup rfl (pgs_cons (pg_name (i := 6) sc__law_right.nd rfl (.inl rfl)) (pgs_cons (pg_name (i := 7) sc__law_right.nd rfl (.inl rfl)) pgs_nil))) (tg_names (is := [6, 7]) (ws := [6, 7]) (by decide) rfl))
      (qss_one (qs_set (i := 5) sc__law_right.nd rfl (.inl rfl) (qe_op (od_add false) (qe_op (od_add false) (qe_op (od_add false) (qe_op (od_add false) (qv 5) qe_str) (qv 6)) qe_str) (qe_callTy cd_strX rfl T.n_str (by decide +kernel) (qa_cons (qv 7) qa_nil))))))
      (qss_cons (qs_for PassesOwn.never rfl (qi_range1 rfl T.n_range (qa_cons (qe_ix xd_ix (qe_lst false (qa_cons qe_int (qa_cons qe_int (qa_cons qe_int (qa_cons qe_int qa_nil))))) (qe_call (ok__law_pull T) (hr.mono (by omega)) rfl T.g__law_pull T.F__law_pull.kp T.b__law_pull (qa_cons (qv 0) (qa_cons qe_int qa_nil))) (fun _ _ => rfl)) qa_nil)) (qg_of (pg_name (i := 8) sc__law_right.nd rfl (.inl rfl)) (tg_name (i := 8) (ws := [8]) (by decide)))
      (qss_one (qs_set (i := 5) sc__law_right.nd rfl (.inl rfl) (qe_call (ok__law_changed T) (hr.mono (by omega)) rfl T.g__law_changed T.F__law_changed.kp T.b__law_changed (qa_cons (qv 0) (qa_cons (qv 5) qa_nil))))))
      (qss_cons (qs_set (i := 9) sc__law_right.nd rfl (.inl rfl) (qe_call (ok__law_read T) (hr.mono (by omega)) rfl T.g__law_read T.F__law_read.kp T.b__law_read (qa_cons (qv 5) qa_nil)))
      (qss_one (qs_ret (qe_call (ok__law_same T) (hr.mono (by omega)) rfl T.g__law_same T.F__law_same.kp T.b__law_same (qa_cons (qe_call (ok__law_told T) (hr.mono (by omega)) rfl T.g__law_told T.F__law_told.kp T.b__law_told (qa_cons (qv 5) qa_nil)) (qa_cons (qe_ifExp (qt_cmp od_is (qv 9) qe_non (nomark _)) qe_str (qv 9)) qa_nil)))))))))))))), fun ds G R h => ?_⟩)
  · unfold sp__law_right at h; split at h; rfl; exact h.elim
  · unfold sp__law_right at h
    split at h
    · rename_i s
      obtain ⟨o, es, ho, h⟩ := h
      refine seq_cut (fun σ' G' => ∃ (b : Int) (names : List Str) (hh al mo c : Int) (o1 : GO), σ' = [some (.ref s), some (machD b names hh al mo c), none, none, none, none, none, none, none, none] ∧ G' = gup G s o1 ∧ SackO 120 o1 ∧ MachP b names hh al mo c) ?_ (fun N1 hN1 => ?_)
      rotate_left
      · walk_at "go"
        refine ⟨_, _, es, ho, by omega, fun b names hh al mo c o1 M ho1 => ?_⟩
        walk_at "go"
        exact hN1 _ _ ⟨b, names, hh, al, mo, c, o1, rfl, rfl, ho1, M⟩
      rintro σ G' ⟨b, names, hh, al, mo, c, o1, rfl, rfl, ho1, M⟩
      have hb1 := M.b1; have hb2 := M.b2; have hh1 := M.h1; have hh2 := M.h2; have ha1 := M.a1; have ha2 := M.a2; have hm1 := M.m1; have hm2 := M.m2; have hc1 := M.c1; have hc2 := M.c2
      have ht := top_le hb1 hb2
      refine seq_cut (fun σ' G' => ∃ q, σ' = [some (.ref s), some (machD b names hh al mo c), some (.ref q), none, none, none, none, none, none, none] ∧ DL.Sub (gup G s o1) G' ∧ G' s = some o1 ∧ q ≠ s ∧ G q = none ∧ G' q = some (.lst [.int b, .int hh, .int al, .int mo, .int c])) ?_ (fun N1 hN1 => ?_)
      rotate_left
      · unfold machD
        walk_at "go"
        rename_i q nq
        have nqs : q ≠ s := fun e => by rw [e, gup_same] at nq; cases nq
        exact hN1 _ _ ⟨q, rfl, DL.Sub.new nq, by rw [gup_ne (Ne.symm nqs)]; exact gup_same, nqs, by rw [gup_ne nqs] at nq; exact nq, gup_same⟩
      rintro σ G1 ⟨q, rfl, sb1, es1, nqs, nqG, eq1⟩
      refine seq_cut (fun σ' G' => ∃ (x0 x1 x2 x3 x4 : Int) (y : Option D) (o2 : GO), σ' = [some (.ref s), some (machD b names hh al mo c), some (.ref q), y, none, none, none, none, none, none] ∧ SackO 124 o2 ∧ Small x0 ∧ Small x1 ∧ Small x2 ∧ Small x3 ∧ Small x4 ∧ DL.Sub (gup G s o2) G' ∧ G' s = some o2 ∧ G' q = some (.lst [.int x0, .int x1, .int x2, .int x3, .int x4])) ?_ (fun N1 hN1 => ?_)
      rotate_left
      · have hs : Small b ∧ Small hh ∧ Small al ∧ Small mo ∧ Small c := ⟨⟨by omega, by omega⟩, ⟨by omega, by omega⟩, ⟨by omega, by omega⟩, ⟨by omega, by omega⟩, ⟨by omega, by omega⟩⟩
        obtain ⟨s0, s1, s2, s3, s4⟩ := hs
        unfold machD
        walk_at "go"
        refine ⟨_, _, es1, ho1, by omega, by decide, by decide, fun r o2 hr ho2 => ?_⟩
        have es2 : gup G1 s o2 s = some o2 := gup_same
        have eq2 : gup G1 s o2 q = some (.lst [.int b, .int hh, .int al, .int mo, .int c]) := by rw [gup_ne nqs]; exact eq1
        have sb2 : DL.Sub (gup G s o2) (gup G1 s o2) := sub_up sb1
        generalize gup G1 s o2 = G2 at es2 eq2 sb2 ⊢
        walk_at "go"
        split
        · rename_i hr0
          refine ⟨_, _, es2, ho2, by omega, by decide, by decide, fun at0 o3 hat ho3 => ?_⟩
          have es3 : gup G2 s o3 s = some o3 := gup_same
          have eq3 : gup G2 s o3 q = some (.lst [.int b, .int hh, .int al, .int mo, .int c]) := by rw [gup_ne nqs]; exact eq2
          have sb3 : DL.Sub (gup G s o3) (gup G2 s o3) := sub_up sb2
          generalize gup G2 s o3 = G3 at es3 eq3 sb3 ⊢
          walk_at "go"
          refine ⟨shl_ok (by omega) (by omega), by decide, _, _, es3, ho3, by omega, by decide, by decide, fun r4 o4 hr4 ho4 => ?_⟩
          have es4 : gup G3 s o4 s = some o4 := gup_same
          have eq4 : gup G3 s o4 q = some (.lst [.int b, .int hh, .int al, .int mo, .int c]) := by rw [gup_ne nqs]; exact eq3
          have sb4 : DL.Sub (gup G s o4) (gup G3 s o4) := sub_up sb3
          generalize gup G3 s o4 = G4 at es4 eq4 sb4 ⊢
          walk_at "go"
          refine ⟨_, _, es4, ho4, by omega, by decide, by decide, fun r5 o5 hr5 ho5 => ?_⟩
          have es5 : gup G4 s o5 s = some o5 := gup_same
          have eq5 : gup G4 s o5 q = some (.lst [.int b, .int hh, .int al, .int mo, .int c]) := by rw [gup_ne nqs]; exact eq4
          have sb5 : DL.Sub (gup G s o5) (gup G4 s o5) := sub_up sb4
          generalize gup G4 s o5 = G5 at es5 eq5 sb5 ⊢
          obtain ⟨j, ej, hj⟩ : ∃ j : Nat, atI [D.int (r4 : Nat), D.int ((at0 : Int) + if decide (0 < (at0 : Int)) = true then 1 else 0)] (r5 : Int) = some (.int (j : Nat)) ∧ j < 6 := by
            rcases (show r5 = 0 ∨ r5 = 1 by omega) with rfl | rfl
            · exact ⟨r4, at_0, by omega⟩
            · by_cases h0 : 0 < at0
              · exact ⟨at0 + 1, by rw [decide_eq_true (show (0 : Int) < (at0 : Int) by omega), if_pos rfl]; exact at_1, by omega⟩
              · exact ⟨at0, by rw [decide_eq_false (show ¬ (0 : Int) < (at0 : Int) by omega), if_neg Bool.false_ne_true, Int.add_zero]; exact at_1, by omega⟩
          obtain ⟨x, ex, sx⟩ : ∃ x : Int, atI [D.int 0, D.int 9, D.int 13, D.int 4, D.int 4, D.int (1 * 2 ^ b.toNat + 1)] (j : Int) = some (.int x) ∧ Small x := by
            rcases (show j = 0 ∨ j = 1 ∨ j = 2 ∨ j = 3 ∨ j = 4 ∨ j = 5 by omega) with rfl | rfl | rfl | rfl | rfl | rfl
            · exact ⟨_, at_0, by decide, by decide⟩
            · exact ⟨_, at_1, by decide, by decide⟩
            · exact ⟨_, at_2, by decide, by decide⟩
            · exact ⟨_, at_3, by decide, by decide⟩
            · exact ⟨_, at_4, by decide, by decide⟩
            · exact ⟨_, at_5, by omega, by omega⟩
          walk_at "go"
          rw [ej, isN_some, ix_l, ex, isN_some]
          refine setN_go eq5 (by simp only [List.length_cons, List.length_nil]; omega) ?_
          have npq : ∀ ds : List D, DL.Sub (gup G s o5) (gup G5 q (.lst ds)) ∧ gup G5 q (.lst ds) s = some o5 := fun ds => by
            refine ⟨fun d u hd => ?_, by rw [gup_ne (Ne.symm nqs)]; exact es5⟩
            by_cases e : d = q
            · subst e; rw [gup_ne nqs, nqG] at hd; cases hd
            · rw [gup_ne e]; exact sb5 d u hd
          rcases (show at0 = 0 ∨ at0 = 1 ∨ at0 = 2 ∨ at0 = 3 ∨ at0 = 4 by omega) with rfl | rfl | rfl | rfl | rfl
          · exact hN1 _ _ ⟨x, hh, al, mo, c, _, o5, rfl, ho5, sx, s1, s2, s3, s4, (npq _).1, (npq _).2, gup_same⟩
          · exact hN1 _ _ ⟨b, x, al, mo, c, _, o5, rfl, ho5, s0, sx, s2, s3, s4, (npq _).1, (npq _).2, gup_same⟩
          · exact hN1 _ _ ⟨b, hh, x, mo, c, _, o5, rfl, ho5, s0, s1, sx, s3, s4, (npq _).1, (npq _).2, gup_same⟩
          · exact hN1 _ _ ⟨b, hh, al, x, c, _, o5, rfl, ho5, s0, s1, s2, sx, s4, (npq _).1, (npq _).2, gup_same⟩
          · exact hN1 _ _ ⟨b, hh, al, mo, x, _, o5, rfl, ho5, s0, s1, s2, s3, sx, (npq _).1, (npq _).2, gup_same⟩
        · exact hN1 _ _ ⟨b, hh, al, mo, c, none, o2, rfl, ho2.mono (by omega), s0, s1, s2, s3, s4, sb2, es2, eq2⟩
      rintro σ G2 ⟨x0, x1, x2, x3, x4, y, o2, rfl, ho2, h0, h1, h2, h3, h4, sb2, es2, eq2⟩
      refine seq_cut (fun σ' G' => ∃ nq, σ' = [some (.ref s), some (machD b names hh al mo c), some (.ref q), y, some (.ref nq), none, none, none, none, none] ∧ nq ≠ s ∧ DL.Sub (gup G s o2) G' ∧ G' s = some o2 ∧ G' q = some (.lst [.int x0, .int x1, .int x2, .int x3, .int x4]) ∧ G' nq = some (.lst (names.map D.str))) ?_ (fun N1 hN1 => ?_)
      rotate_left
      · unfold machD
        walk_at "go"
        rename_i nq nnq
        have nns : nq ≠ s := fun e => by rw [e, es2] at nnq; cases nnq
        have nnq2 : q ≠ nq := fun e => by rw [← e, eq2] at nnq; cases nnq
        exact hN1 _ _ ⟨nq, rfl, nns, fun d u hd => DL.Sub.new nnq d u (sb2 d u hd), by rw [gup_ne (Ne.symm nns)]; exact es2, by rw [gup_ne nnq2]; exact eq2, gup_same⟩
      rintro σ G3 ⟨nq, rfl, nns, sb3, es3, eq3, en3⟩
      refine seq_cut (fun σ' G' => ∃ (nq : Addr) (zs : List Str) (o3 : GO), σ' = [some (.ref s), some (machD b names hh al mo c), some (.ref q), y, some (.ref nq), none, none, none, none, none] ∧ SackO 126 o3 ∧ (∀ z ∈ zs, nameOk z = true) ∧ zs.length ≤ 8 ∧ DL.Sub (gup G s o3) G' ∧ G' s = some o3 ∧ G' q = some (.lst [.int x0, .int x1, .int x2, .int x3, .int x4]) ∧ G' nq = some (.lst (zs.map D.str))) ?_ (fun N1 hN1 => ?_)
      rotate_left
      · walk_at "go"
        refine ⟨_, _, es3, ho2, by omega, by decide, by decide, fun r o3 hr ho3 => ?_⟩
        have es4 : gup G3 s o3 s = some o3 := gup_same
        have eq4 : gup G3 s o3 q = some (.lst [.int x0, .int x1, .int x2, .int x3, .int x4]) := by rw [gup_ne nqs]; exact eq3
        have en4 : gup G3 s o3 nq = some (.lst (names.map D.str)) := by rw [gup_ne nns]; exact en3
        have sb4 : DL.Sub (gup G s o3) (gup G3 s o3) := sub_up sb3
        generalize gup G3 s o3 = G4 at es4 eq4 en4 sb4 ⊢
        walk_at "go"
        split
        · refine rep_go en4 (by decide) (by decide) (by rw [List.length_map, sizeLine_eq]; have := M.n2; show names.length * 7 ≤ _; omega) ?_
          rw [newL_f]
          refine ⟨_, _, es4, ho3, by omega, by decide, by decide, fun k o4 hk ho4 => ?_⟩
          have es5 : gup G4 s o4 s = some o4 := gup_same
          have eq5 : gup G4 s o4 q = some (.lst [.int x0, .int x1, .int x2, .int x3, .int x4]) := by rw [gup_ne nqs]; exact eq4
          have sb5 : DL.Sub (gup G s o4) (gup G4 s o4) := sub_up sb4
          generalize gup G4 s o4 = G5 at es5 eq5 sb5 ⊢
          walk_at "go"
          rename_i mq nmq
          have mns : mq ≠ s := fun e => by rw [e, es5] at nmq; cases nmq
          have nmq2 : q ≠ mq := fun e => by rw [← e, eq5] at nmq; cases nmq
          have ez : cutL (List.replicate (Int.toNat 7) (names.map D.str)).flatten none (some (1 + (k : Int))) = (((List.replicate 7 names).flatten).take (1 + k)).map D.str := by
            rw [show (1 + (k : Int)) = ((1 + k : Nat) : Int) by omega, cut_take, List.map_take, List.map_flatten, List.map_replicate] <;> rfl
          rw [ez]
          refine hN1 _ _ ⟨mq, _, o4, rfl, ho4.mono (by omega), fun z hz => ?_, by rw [List.length_take]; omega, fun d u hd => DL.Sub.new nmq d u (sb5 d u hd), by rw [gup_ne (Ne.symm mns)]; exact es5, by rw [gup_ne nmq2]; exact eq5, gup_same⟩
          obtain ⟨l, hl, hz2⟩ := List.mem_flatten.mp (List.mem_of_mem_take hz)
          rw [(List.mem_replicate.mp hl).2] at hz2
          exact M.nm.ok z hz2
        · exact hN1 _ _ ⟨nq, names, o3, rfl, ho3.mono (by omega), M.nm.ok, by have := M.n2; omega, sb4, es4, eq4, en4⟩
      rintro σ G4 ⟨nq, zs, o3, rfl, ho3, hzs, hzl, sb4, es4, eq4, en4⟩
      refine seq_cut (fun σ' G' => ∃ (ln : Str), σ' = [some (.ref s), some (machD b names hh al mo c), some (.ref q), y, some (.ref nq), some (.str ln), none, none, none, none] ∧ ln.length ≤ 90 ∧ pyD (.str ln) = true ∧ G' = G4) ?_ (fun N1 hN1 => ?_)
      rotate_left
      · walk_at "go"
        rw [atL_at eq4, at_0, isN_some, strX_i]
        have hn0 := numZ_len3 h0.1 h0.2
        refine ⟨hn0.2, ?_⟩
        have e1 : (Str.ofString "bits ").length = 5 := by decide +kernel
        have e2 : (Str.ofString " registers ").length = 11 := by decide +kernel
        have hn1 : (Str.ofString (toString x0)).length ≤ 3 := hn0.1
        rw [dAdd_ss]
        refine ⟨by rw [sizeLine_eq]; omega, ?_⟩
        rw [dAdd_ss]
        refine ⟨by rw [app_len, sizeLine_eq]; omega, rfl, ?_⟩
        have hjl := join_wsL0 zs
        have hjw := names_wsL hzs
        refine join_gor en4 (strsOf_strs zs) ?_ ?_
        · have : (zs.map fun z : Str => z.length).sum ≤ wsL zs := sum_le_sum zs
          rw [show (Str.ofString " ").length = 1 by decide +kernel]
          omega
        have hjl2 : (Txt.join (Str.ofString " ") zs).length ≤ wsL zs - 1 := hjl
        rw [dAdd_ss]
        refine ⟨by rw [app_len, app_len, sizeLine_eq]; omega, ?_⟩
        refine hN1 _ _ ⟨_, rfl, by rw [app_len, app_len, app_len]; omega, ?_, rfl⟩
        exact py_app (py_app (py_app (py_of _) (numZ_py _)) (py_of _)) (py_join (py_of _) fun z hz => name_pyN (hzs z hz))
      rintro σ G5 ⟨ln, rfl, hl1, hp1, rfl⟩
      refine seq_cut (fun σ' G' => ∃ (ln : Str) (y6 y7 : Option D), σ' = [some (.ref s), some (machD b names hh al mo c), some (.ref q), y, some (.ref nq), some (.str ln), y6, y7, none, none] ∧ ln.length ≤ 140 ∧ pyD (.str ln) = true ∧ G' = G5) ?_ (fun N1 hN1 => ?_)
      rotate_left
      · walk_at "go"
        refine (show dSl false (D.ref q) (some 1) none G5 _ ↔ _ from by unfold dSl; simp only [lstOf, eq4]; exact Iff.rfl).mpr ?_
        rw [newL_f, show cutL [D.int x0, .int x1, .int x2, .int x3, .int x4] (some 1) none = [D.int x1, .int x2, .int x3, .int x4] from rfl]
        dsimp only
        have hxs : ∀ p ∈ [(("hidden" : Str), x1), ("alus", x2), ("moves", x3), ("cells", x4)], p.1.length ≤ 6 ∧ pyD (.str p.1) = true ∧ Small p.2 := fun p hp => by
          simp only [List.mem_cons, List.not_mem_nil, or_false] at hp
          rcases hp with rfl | rfl | rfl | rfl
          · exact ⟨show (Str.ofString "hidden").length ≤ 6 by decide +kernel, py_of _, h1⟩
          · exact ⟨show (Str.ofString "alus").length ≤ 6 by decide +kernel, py_of _, h2⟩
          · exact ⟨show (Str.ofString "moves").length ≤ 6 by decide +kernel, py_of _, h3⟩
          · exact ⟨show (Str.ofString "cells").length ≤ 6 by decide +kernel, py_of _, h4⟩
        refine for_typ (fun p : Str × Int => D.tup [.str p.1, .int p.2]) [(("hidden" : Str), x1), ("alus", x2), ("moves", x3), ("cells", x4)] (fun k σ' G' => ∃ (ln : Str) (y6 y7 : Option D), σ' = [some (.ref s), some (machD b names hh al mo c), some (.ref q), y, some (.ref nq), some (.str ln), y6, y7, none, none] ∧ ln.length ≤ 90 + 11 * k ∧ pyD (.str ln) = true ∧ G' = G5) (fun _ _ _ _ => ⟨trivial, trivial⟩) (fun k p σ G' hp hI N hN => ?_) (fun σ G' hI => ?_) _ _ ⟨ln, none, none, rfl, hl1, hp1, rfl⟩
        · obtain ⟨l, y6, y7, rfl, hl, hpl, rfl⟩ := hI
          obtain ⟨w1, w2, w3⟩ := hxs p (List.mem_of_getElem? hp)
          have hk4 : k < 4 := by have := (List.getElem?_eq_some_iff.mp hp).1; simpa using this
          have hn := numZ_len3 w3.1 w3.2
          have hn1 : (Str.ofString (toString p.2)).length ≤ 3 := hn.1
          have e1 : (Str.ofString " ").length = 1 := by decide +kernel
          walk_at "go"
          refine hN _ _ ⟨_, _, _, rfl, ?_, py_app (py_app (py_app (py_app hpl (py_of _)) w2) (py_of _)) (numZ_py _), rfl⟩
          rw [app_len, app_len, app_len, app_len]
          omega
        · obtain ⟨l, y6, y7, rfl, hl, hpl, rfl⟩ := hI
          exact hN1 _ _ ⟨l, y6, y7, rfl, by simp only [List.length_cons, List.length_nil] at hl; omega, hpl, rfl⟩
      rintro σ G6 ⟨ln2, y6, y7, rfl, hl2, hp2, rfl⟩
      refine seq_cut (fun σ' G' => ∃ (ln : Str) (y8 : Option D) (o4 : GO), σ' = [some (.ref s), some (machD b names hh al mo c), some (.ref q), y, some (.ref nq), some (.str ln), y6, y7, y8, none] ∧ ln.length ≤ 600 ∧ pyD (.str ln) = true ∧ DL.Sub (gup G s o4) G' ∧ G' s = some o4) ?_ (fun N1 hN1 => ?_)
      rotate_left
      · walk_at "go"
        refine ⟨_, _, es4, ho3, by omega, by decide, by decide, fun r o4 hr ho4 => ?_⟩
        obtain ⟨j, ej, hj⟩ : ∃ j : Nat, atI [D.int 0, D.int 1, D.int 1, D.int 2] (r : Int) = some (.int (j : Nat)) ∧ j ≤ 2 := by
          rcases (show r = 0 ∨ r = 1 ∨ r = 2 ∨ r = 3 by omega) with rfl | rfl | rfl | rfl
          · exact ⟨0, at_0, by omega⟩
          · exact ⟨1, at_1, by omega⟩
          · exact ⟨1, at_2, by omega⟩
          · exact ⟨2, at_3, by omega⟩
        rw [ix_l, ej, isN_some]
        dsimp only
        refine ⟨by omega, by omega, ?_⟩
        rw [Int.toNat_natCast]
        refine for_rng j (fun k σ' G' => ∃ (ln : Str) (y8 : Option D) (o4 : GO), σ' = [some (.ref s), some (machD b names hh al mo c), some (.ref q), y, some (.ref nq), some (.str ln), y6, y7, y8, none] ∧ ln.length + 1 ≤ 141 * 2 ^ k ∧ pyD (.str ln) = true ∧ SackO (127 + 5 * k) o4 ∧ DL.Sub (gup G s o4) G' ∧ G' s = some o4) (fun k σ G' hk hI N hN => ?_) (fun σ G' hI => ?_) _ _ ⟨ln2, none, o4, rfl, by omega, hp2, ho4, sub_up sb4, gup_same⟩
        · obtain ⟨l, y8, o5, rfl, hl, hpl, ho5, sb5, es5⟩ := hI
          have hp2 : 2 ^ k ≤ 2 := by
            have : k ≤ 1 := by omega
            exact Nat.le_trans (Nat.pow_le_pow_right (by decide) this) (by decide)
          walk_at "go"
          refine ⟨s, l, _, o5, rfl, es5, ho5, by omega, by omega, hpl, fun z' o6 hz' hzl ho6 => ?_⟩
          refine hN _ _ ⟨z', _, o6, rfl, ?_, hz', ho6.mono (by omega), sub_up sb5, gup_same⟩
          have h1 : 1 ≤ 2 ^ k := Nat.one_le_two_pow
          rw [Nat.pow_succ]
          omega
        · obtain ⟨l, y8, o5, rfl, hl, hpl, ho5, sb5, es5⟩ := hI
          have hp2 : 2 ^ j ≤ 4 := Nat.le_trans (Nat.pow_le_pow_right (by decide) hj) (by decide)
          exact hN1 _ _ ⟨l, y8, o5, rfl, by omega, hpl, sb5, es5⟩
      rintro σ G7 ⟨ln3, y8, o4, rfl, hl3, hp3, sb7, es7⟩
      have hfin := h o4
      rcases Classical.em (NoMach ln3) with hno | hma
      · refine seq_cut (fun σ' G' => σ' = [some (.ref s), some (machD b names hh al mo c), some (.ref q), y, some (.ref nq), some (.str ln3), y6, y7, y8, some .non] ∧ G' = G7) ?_ (fun N1 hN1 => ?_)
        rotate_left
        · walk_at "go"
          refine ⟨ln3, rfl, hl3, hp3, fun b names hh al mo c M e => absurd e (hno _ _ _ _ _ _ M), fun _ => ?_⟩
          exact hN1 _ _ ⟨rfl, rfl⟩
        rintro σ G8 ⟨rfl, rfl⟩
        walk_at "go"
        refine ⟨ln3, rfl, hl3, hp3, fun b names hh al mo c M e => absurd e (hno _ _ _ _ _ _ M), fun _ => ?_⟩
        walk_at "go"
        refine go_same (py_of _) (by simp [wid]) (by simp [depD]) ?_
        exact rt_sub sb7 hfin
      · obtain ⟨b2, nm2, hh2, al2, mo2, c2, M2, e2⟩ : ∃ b names hh al mo c, MachP b names hh al mo c ∧ ln3 = mtxt b names hh al mo c := by
          unfold NoMach at hma
          simp only [Classical.not_forall, ne_eq, Classical.not_not] at hma
          obtain ⟨b, names, hh, al, mo, c, M, e⟩ := hma
          exact ⟨b, names, hh, al, mo, c, M, e⟩
        have hinj : ∀ b names hh al mo c, MachP b names hh al mo c → ln3 = mtxt b names hh al mo c → machD b names hh al mo c = machD b2 nm2 hh2 al2 mo2 c2 := fun b names hh al mo c M e => by
          have q1 := mtxt_split M
          rw [← e, e2, mtxt_split M2] at q1
          exact mach_inj M M2 q1.symm
        refine seq_cut (fun σ' G' => σ' = [some (.ref s), some (machD b names hh al mo c), some (.ref q), y, some (.ref nq), some (.str ln3), y6, y7, y8, some (machD b2 nm2 hh2 al2 mo2 c2)] ∧ G' = G7) ?_ (fun N1 hN1 => ?_)
        rotate_left
        · walk_at "go"
          refine ⟨ln3, rfl, hl3, hp3, fun b names hh al mo c M e => ?_, fun hno => absurd e2 (hno _ _ _ _ _ _ M2)⟩
          rw [hinj _ _ _ _ _ _ M e]
          exact hN1 _ _ ⟨rfl, rfl⟩
        rintro σ G8 ⟨rfl, rfl⟩
        unfold machD
        walk_at "go"
        refine ⟨ln3, rfl, hl3, hp3, fun b names hh al mo c M e => ?_, fun hno => absurd e2 (hno _ _ _ _ _ _ M2)⟩
        rw [hinj _ _ _ _ _ _ M e]
        walk_at "go"
        obtain ⟨p1, p2, p3⟩ := strs_py M2.nm.ok
        refine go_same (x := machD b2 nm2 hh2 al2 mo2 c2) (by unfold machD; simp only [pyD, pyDs, Bool.and_eq_true, p1]; decide) (by unfold machD; have := M2.n2; simp [wid, wids, p2]; omega) (by unfold machD; simp only [depD, depDs]; omega) ?_
        exact rt_sub sb7 hfin
    · exact h.elim
end K15


set_option Elab.async false
set_option linter.all false
set_option maxRecDepth 100000
set_option maxHeartbeats 4000000
set_option autoImplicit false
namespace K15
open PySem PySem.Spec PyProof.Rows L2 DL
local macro_rules | `(tactic| walk_at "d") => `(tactic| dsimp only [dSeq, dNext, dIfS, dRet, dRetN, dAsg, dName, dVar, dC, dOp, dUn, dChain, dB, dAnd, dOr, dNot, dAndV, dOrV, dNotV, dIf, dNil, dCons, dTup, dLst, newL, dCallB, dCall, dCallK, dDrop, dAug, dAugS, dSub, dM, dM0, dSlice, dNoPart, dPart, dLc, dYes, dFor, dIter, dRng1, dEnum, dZipM, srcD, dStar, dInK, dIxK, dLenSet, dRev,
  startD, wipeD, setAll, dNames, List.map_cons, List.map_nil, List.length_cons, List.length_nil, List.replicate, List.cons_append, List.nil_append, List.append_nil, List.getElem?_cons_zero, List.getElem?_cons_succ, List.set_cons_zero, List.set_cons_succ, List.map, Nat.zero_add, Nat.reduceAdd, Nat.reduceSub, Nat.sub_self, Nat.succ_sub_succ_eq_sub])
local macro_rules | `(tactic| walk_at "o") => `(tactic| simp only [dAdd_ii, dAdd_ss, dAdd_tt, dAdd_ll, dMinus_ii, dMul_ii, dMod_ii, dFdiv_ii, dPow_ii, dShl_ii, dNeg_i, dIadd_ii, dLt_ii, dLe_ii, dGt_ii, dGe_ii, dEq_ii, dNe_ii, dEq_ss, dNe_ss, dEq_bb, dNe_bb, dIs_n, dIsNot_n, dMax2_ii, dMin2_ii, dTuple_t, dTuple_l, dList_t, dList_l, dIx_t, dIx_l, dIx_s, dSl_t, dSl_l, dSl_s, newL_f, len_tup, len_lst])
local macro_rules | `(tactic| walk_at "w") => `(tactic| dsimp only [x_var, x_c, x_op, x_un, x_b, x_and, x_or, x_not, x_chain, x_andV, x_orV, x_notV, x_if, x_nil, x_cons, x_tup, x_lst0, x_lst1, x_callB, x_call, x_callK, x_next, x_seq, x_break, x_cont, x_drop, x_ret, x_ifS, x_asg, x_name, x_names, x_sub, x_aug, x_augS, x_for, x_lc0, x_lc1, x_yes, x_noPart, x_part, x_slice, x_iter, it_t, it_l, it_n, it_s, it_r, x_rng1, x_enum, x_rev, x_m, x_m0, x_mX, x_zip, x_star_t, x_star_l, x_lenSet, x_forgo0, x_lcgo0, x_while, x_par, x_sortK,
  br_t, br_f, isB_bl, isI_int, isN_some, slo_some, atL_lst, ix_t, ix_l, ix_n,
  dAdd_ii, dAdd_ss, dAdd_tt, dAdd_ll, dMinus_ii, dMul_ii, dMod_ii, dFdiv_ii, dPow_ii, dShl_ii, dNeg_i, dIadd_ii, dLt_ii, dLe_ii, dGt_ii, dGe_ii, ltE_ii, ltE_ss, srcD, isi_i, isi_s, isi_b, isi_n, isi_t, isi_nt, isi_l, isi2_i, isi2_s, isi2_b, isi2_n, isi2_t, isi2_nt, isi2_l, inon_n, inon_i, inon_s, inon_b, inon_t, inon_l, inon_r, dEq_ii, dNe_ii, dEq_ss, dNe_ss, dEq_bb, dNe_bb, dIs_n, dIsNot_n, dMax2_ii, dMin2_ii, dTuple_t, dTuple_l, dList_t, dList_l, dSl_t, dSl_l, dSl_s, newL_f, newL_t, app_r, int_b, int_i, strI_i, strX_i, strX_s,
  startD, wipeD, setAll, permL, List.filterMap, List.map_cons, List.map_nil, List.length_cons, List.length_nil, List.replicate, List.cons_append, List.nil_append, List.append_nil, List.getElem?_cons_zero, List.getElem?_cons_succ, List.set_cons_zero, List.set_cons_succ, List.map, Nat.zero_add, Nat.reduceAdd, Nat.reduceSub, Nat.sub_self, Nat.succ_sub_succ_eq_sub])
local macro_rules | `(tactic| walk_at "v") => `(tactic| simp only [ofString_inj, String.reduceEq, at_0, at_1, at_2, at_3, at_4, at_5, isN_some, isBB_bl, isB_bl, br_t, br_f, br_not, br_and, br_or, br_dec, ix_r, len_tup, len_lst, len_nt, ltE_key, gup_gup, gup_same, starD_one, cut1, cut2, kt1, kt2, kt3, kt4, kt5, kt6, isTy, String.reduceBEq, Bool.or_false, Bool.false_or, Bool.true_or, Bool.or_true, Bool.and_false, Bool.false_and, Bool.true_and, Bool.and_true, Bool.not_true, Bool.not_false, decide_true, decide_false, eq_self_iff_true, Bool.false_eq_true, Int.reduceAdd, Int.add_zero, if_true, if_false, true_and, and_true])
local macro_rules | `(tactic| walk_at "side") => `(tactic| first | with_reducible assumption | omega | exact mty_up | exact True.intro | (simp only [List.mem_cons, ofString_inj, String.reduceEq, true_or, or_true, List.length_map]; done) | with_reducible exact (rfl : (_ : Nat) = _) | exact (rfl : (_ : Option String) = _) | (refine small_line ?_; omega) | (walk_at "ll"; first | omega | (refine small_line ?_; omega) | fail) | (exact log_small (by omega)) | fail)
local macro_rules | `(tactic| walk_at "x") => `(tactic| fail)
local macro_rules | `(tactic| walk_at "go") => `(tactic| repeat' (first | dsimp only [x_var, x_c, x_op, x_un, x_b, x_and, x_or, x_not, x_chain, x_andV, x_orV, x_notV, x_if, x_nil, x_cons, x_tup, x_lst0, x_lst1, x_callB, x_call, x_callK, x_next, x_seq, x_break, x_cont, x_drop, x_ret, x_ifS, x_asg, x_name, x_names, x_sub, x_aug, x_augS, x_for, x_lc0, x_lc1, x_yes, x_noPart, x_part, x_slice, x_iter, it_t, it_l, it_n, it_s, it_r, x_rng1, x_enum, x_rev, x_m, x_m0, x_mX, x_zip, x_star_t, x_star_l, x_lenSet, x_forgo0, x_lcgo0, x_while, x_par, x_sortK, br_t, br_f, isB_bl, isI_int, isN_some, slo_some, atL_lst, ix_t, ix_l, ix_n, dAdd_ii, dAdd_ss, dAdd_tt, dAdd_ll, dMinus_ii, dMul_ii, dMod_ii, dFdiv_ii, dPow_ii, dShl_ii, dNeg_i, dIadd_ii, dLt_ii, dLe_ii, dGt_ii, dGe_ii, ltE_ii, ltE_ss, srcD, isi_i, isi_s, isi_b, isi_n, isi_t, isi_nt, isi_l, isi2_i, isi2_s, isi2_b, isi2_n, isi2_t, isi2_nt, isi2_l, inon_n, inon_i, inon_s, inon_b, inon_t, inon_l, inon_r, dEq_ii, dNe_ii, dEq_ss, dNe_ss, dEq_bb, dNe_bb, dIs_n, dIsNot_n, dMax2_ii, dMin2_ii, dTuple_t, dTuple_l, dList_t, dList_l, dSl_t, dSl_l, dSl_s, newL_f, newL_t, app_r, int_b, int_i, strI_i, strX_i, strX_s, startD, wipeD, setAll, permL, List.filterMap, List.map_cons, List.map_nil, List.length_cons, List.length_nil, List.replicate, List.cons_append, List.nil_append, List.append_nil, List.getElem?_cons_zero, List.getElem?_cons_succ, List.set_cons_zero, List.set_cons_succ, List.map, Nat.zero_add, Nat.reduceAdd, Nat.reduceSub, Nat.sub_self, Nat.succ_sub_succ_eq_sub] | simp only [ofString_inj, String.reduceEq, at_0, at_1, at_2, at_3, at_4, at_5, isN_some, isBB_bl, isB_bl, br_t, br_f, br_not, br_and, br_or, br_dec, ix_r, len_tup, len_lst, len_nt, ltE_key, gup_gup, gup_same, starD_one, cut1, cut2, kt1, kt2, kt3, kt4, kt5, kt6, isTy, String.reduceBEq, Bool.or_false, Bool.false_or, Bool.true_or, Bool.or_true, Bool.and_false, Bool.false_and, Bool.true_and, Bool.and_true, Bool.not_true, Bool.not_false, decide_true, decide_false, eq_self_iff_true, Bool.false_eq_true, Int.reduceAdd, Int.add_zero, if_true, if_false, true_and, and_true] | walk_at "x" | with_reducible refine kont_go ?_ | with_reducible refine rt_sub (by assumption) ?_ | with_reducible refine rt_lst (by assumption) ?_ | with_reducible refine rt_drop (by assumption) ?_ | with_reducible refine rt_keep (by assumption) (by assumption) ?_ | with_reducible refine rt_same ?_ | (refine fun (p : Addr) (_ : _ = none) => ?_) | refine join_gor gup_same rfl (by walk_at "side") ?_ | with_reducible refine lc_cons ?_ | with_reducible refine for_cons ?_ | refine join_go rfl (by walk_at "side") ?_ | refine And.intro (by first | with_reducible assumption | omega | exact mty_up | exact True.intro | (simp only [List.mem_cons, ofString_inj, String.reduceEq, true_or, or_true, List.length_map]; done) | with_reducible exact (rfl : (_ : Nat) = _) | exact (rfl : (_ : Option String) = _) | (refine small_line ?_; omega) | (walk_at "ll"; first | omega | (refine small_line ?_; omega) | fail) | (exact log_small (by omega)) | fail) ?_ | fail))
local macro_rules | `(tactic| walk_at "ll") => `(tactic| simp only [List.length_map, List.length_append, List.length_cons, List.length_nil, List.map_cons, List.map_nil, List.sum_cons, List.sum_nil, len_app, rng_length, ll_0, ll_1, ll_2, ll_3, ll_4, ll_5, ll_6, ll_7, ll_8, ll_9, ll_10, ll_11, ll_12, ll_13, ll_14, ll_15, ll_16, ll_17, ll_18, ll_19, ll_20, ll_21, ll_22, ll_23, ll_24, ll_25, ll_26, ll_27, ll_28, ll_29, ll_30, ll_31, ll_32, ll_33, ll_34, ll_35, ll_36, ll_37, ll_38, ll_39, ll_40, ll_41, ll_42, ll_43, ll_44, ll_45, ll_46, ll_47, ll_48, ll_49, ll_50, ll_51, ll_52, ll_53, ll_54])
def sp_law : DSp := fun ds G R => match ds with
  | [.lst xs] => ∃ ns : List Int, xs = ns.map D.int ∧ ns.length ≤ 63 ∧ ∀ G', R (.bl true) G'
  | _ => False
theorem enumD_mem : ∀ (ds : List D) (lo : Int) {x : D}, x ∈ enumD lo ds → ∃ k d, x = .tup [.int k, d] ∧ lo ≤ k ∧ k < lo + ds.length ∧ d ∈ ds
  | [], lo, x, h => by cases h
  | d :: ds, lo, x, h => by
    rcases List.mem_cons.mp h with h | h
    · exact ⟨lo, d, h, by omega, by simp only [List.length_cons]; omega, List.mem_cons_self ..⟩
    · obtain ⟨k, e, h1, h2, h3, h4⟩ := enumD_mem ds (lo + 1) h
      exact ⟨k, e, h1, by omega, by simp only [List.length_cons]; omega, List.mem_cons_of_mem _ h4⟩
theorem cut_ints (ns : List Int) (hi : Option Int) (hl : ns.length ≤ 63) : (cutL (List.map D.int ns ++ [D.int 0]) none hi).length ≤ 64 ∧ ∀ d ∈ cutL (List.map D.int ns ++ [D.int 0]) none hi, ∃ c : Int, d = .int c := by
  unfold cutL
  refine ⟨by rw [List.length_take, List.length_drop, List.length_append, List.length_map]; simp only [List.length_cons, List.length_nil]; omega, fun d hd => ?_⟩
  rcases List.mem_append.mp (List.mem_of_mem_drop (List.mem_of_mem_take hd)) with h | h
  · obtain ⟨c, _, rfl⟩ := List.mem_map.mp h; exact ⟨c, rfl⟩
  · rw [List.mem_singleton] at h; exact ⟨0, h⟩
theorem ok_law {P : Program} {w : World} {K : PySem.W.Frag} {mg : Str → Option Value} {base : Heap} {a : Ad} (T : Tx w K mg a) : FnD P w K mg base 7 a.f_law a.fd_law ["script"] sp_law := by
  refine fun_okD T.F_law sc_law (fun ds G R h => ?_) (fun cdv A outer s H hr => ⟨_, (qss_cons (qs_for PassesOwn.never rfl (qi_enum rfl T.n_enumerate (qa_cons (qe_slice false (qe_op (od_add false) (qv 0) (qe_lst false (qa_cons qe_int qa_nil))) qo_none (qo_some (qe_callB (cd_max2 rfl) rfl T.n_max (by decide +kernel) (qa_cons qe_int (qa_cons (qe_callB (cd_min2 rfl) rfl T.n_min (by decide +kernel) (qa_cons (qe_callB cd_len rfl T.n_len (by decide +kernel) (qa_cons (qv 0) qa_nil)) (qa_cons qe_int qa_nil))) qa_nil))))) qa_nil)) (qg_of (pg_tup rfl (pgs_cons (pg_name (i := 1) sc_law.nd rfl (.inl rfl)) (pgs_cons (pg_name (i := 2) sc_law.nd rfl (.inl rfl)) pgs_nil))) (tg_names (is := [1, 2]) (ws := [1, 2]) (by decide) rfl))
      (qss_one (qs_if (qt_not (qt_val (qe_call (ok__law_right T) (hr.mono (by omega)) rfl T.g__law_right T.F__law_right.kp T.b__law_right (qa_cons (qe_call (ok__law_sack T) (hr.mono (by omega)) rfl T.g__law_sack T.F__law_sack.kp T.b__law_sack (qa_cons (qv 2) (qa_cons (qv 1) qa_nil))) qa_nil))))
      (qss_one (qs_ret qe_bl))
      qss_nil)))
      (qss_one (qs_ret qe_bl))), fun ds G R h => ?_⟩)
  · unfold sp_law at h; split at h; rfl; exact h.elim
  · unfold sp_law at h
    split at h
    · obtain ⟨ns, rfl, hl, h⟩ := h
      walk_at "d"
      walk_at "o"
      refine ⟨by decide, small_line (by simp only [List.length_map, List.length_cons, List.length_nil]; omega), ?_⟩
      obtain ⟨hc1, hc2⟩ := cut_ints ns (some (if (if 24 < ((List.map D.int ns).length : Int) then 24 else ((List.map D.int ns).length : Int)) > 1 then if 24 < ((List.map D.int ns).length : Int) then 24 else ((List.map D.int ns).length : Int) else 1)) hl
      refine for_go (fun rest σ _ => (∀ x ∈ rest, ∃ k c : Int, x = .tup [.int k, .int c] ∧ 0 ≤ k ∧ k ≤ 1000) ∧ ∃ x1 x2, σ = [some (D.lst (List.map D.int ns)), x1, x2]) ?turn ?fin _ _ _ ⟨?init, none, none, rfl⟩
      case init =>
        intro x hx
        obtain ⟨k, d, rfl, h1, h2, h3⟩ := enumD_mem _ _ hx
        obtain ⟨c, rfl⟩ := hc2 d h3
        exact ⟨k, c, rfl, h1, by omega⟩
      case fin =>
        rintro σ G' ⟨_, x1, x2, rfl⟩
        exact ⟨True.intro, ret_same (h _)⟩
      case turn =>
        rintro x rest σ G' ⟨hx, x1, x2, rfl⟩
        refine ⟨True.intro, fun N hN => ?_⟩
        obtain ⟨k, c, rfl, hk1, hk2⟩ := hx x (List.mem_cons_self ..)
        walk_at "d"
        refine ⟨rfl, hk1, hk2, fun p o np ho => ?_⟩
        refine ⟨o, gup_same, ho, fun o' => ?_⟩
        walk_at "d"
        exact hN _ _ ⟨fun y hy => hx y (List.mem_cons_of_mem _ hy), _, _, rfl⟩
    · exact h.elim
def spV_law (K : PySem.W.Frag) : Sp := upSp K sp_law
theorem rds_ints {K : PySem.W.Frag} {H : Hp} {N : Ns} : ∀ ns : List Int, RDs K H N (ns.map D.int) (ns.map V.int)
  | [] => by simp only [List.map_nil, RDs]
  | n :: ns => by simp only [List.map_cons, RDs]; exact ⟨_, _, rfl, by simp only [RD], rds_ints ns⟩
theorem spV_at {K : PySem.W.Frag} {H : Hp} {a : Addr} {ns : List Int} (hl : ns.length ≤ 63) (hb : ∀ z ∈ ns, Builtin.Int.intBits z ≤ 1048576) (hS : SqL K H a (ns.map V.int)) : spV_law K [.ref a] H (fun v _ => v = .bl true) (fun _ _ _ => False) := by
  have hA : LstAt K H (fun _ => False) a (ns.map V.int) := by
    rcases hS with (h | h) | h
    · exact .inl ⟨h, fun z => z⟩
    · exact .inr (.inl h)
    · exact .inr (.inr h)
  refine ⟨[.lst (ns.map D.int)], fun _ => none, fun _ => False, fun d _ => d = .bl true, ?_, fun p o e => (by cases e), ⟨ns, rfl, hl, fun _ => rfl⟩, fun d G' N' v H' hd _ r => ?_⟩
  · simp only [RDs]
    exact ⟨_, [], rfl, RD.lst hA (rds_ints ns), rfl⟩
  · subst hd
    exact r.of_bl
theorem all_mk {w : World} {K : PySem.W.Frag} {h : Heap} {mg : Str → Option Value} (X : K.In h) (G : h.Ns mainGlobals mg)
    {cX_LoftError : Addr} (aX_LoftError : PySem.W.nsIn K mainGlobals "LoftError" = some (some (.ref cX_LoftError))) (kX_LoftError : PySem.W.keepIn K (.ref cX_LoftError) = true) (bX_LoftError : PySem.W.subIn K (.ref cX_LoftError) (.type "BaseException") = some true) (tX_LoftError : PySem.W.typeIn K (.ref cX_LoftError) = some (.type "type")) (hX_LoftError : PySem.W.hasDictIn K cX_LoftError = true)
    {cX_TooMany : Addr} (aX_TooMany : PySem.W.nsIn K mainGlobals "TooMany" = some (some (.ref cX_TooMany))) (kX_TooMany : PySem.W.keepIn K (.ref cX_TooMany) = true) (bX_TooMany : PySem.W.subIn K (.ref cX_TooMany) (.type "BaseException") = some true) (tX_TooMany : PySem.W.typeIn K (.ref cX_TooMany) = some (.type "type")) (hX_TooMany : PySem.W.hasDictIn K cX_TooMany = true)
    {cX_NoRoom : Addr} (aX_NoRoom : PySem.W.nsIn K mainGlobals "NoRoom" = some (some (.ref cX_NoRoom))) (kX_NoRoom : PySem.W.keepIn K (.ref cX_NoRoom) = true) (bX_NoRoom : PySem.W.subIn K (.ref cX_NoRoom) (.type "BaseException") = some true) (tX_NoRoom : PySem.W.typeIn K (.ref cX_NoRoom) = some (.type "type")) (hX_NoRoom : PySem.W.hasDictIn K cX_NoRoom = true)
    {cX_NoRow : Addr} (aX_NoRow : PySem.W.nsIn K mainGlobals "NoRow" = some (some (.ref cX_NoRow))) (kX_NoRow : PySem.W.keepIn K (.ref cX_NoRow) = true) (bX_NoRow : PySem.W.subIn K (.ref cX_NoRow) (.type "BaseException") = some true) (tX_NoRow : PySem.W.typeIn K (.ref cX_NoRow) = some (.type "type")) (hX_NoRow : PySem.W.hasDictIn K cX_NoRow = true)
    {cX_NoLoft : Addr} (aX_NoLoft : PySem.W.nsIn K mainGlobals "NoLoft" = some (some (.ref cX_NoLoft))) (kX_NoLoft : PySem.W.keepIn K (.ref cX_NoLoft) = true) (bX_NoLoft : PySem.W.subIn K (.ref cX_NoLoft) (.type "BaseException") = some true) (tX_NoLoft : PySem.W.typeIn K (.ref cX_NoLoft) = some (.type "type")) (hX_NoLoft : PySem.W.hasDictIn K cX_NoLoft = true)
    {cX_NoCells : Addr} (aX_NoCells : PySem.W.nsIn K mainGlobals "NoCells" = some (some (.ref cX_NoCells))) (kX_NoCells : PySem.W.keepIn K (.ref cX_NoCells) = true) (bX_NoCells : PySem.W.subIn K (.ref cX_NoCells) (.type "BaseException") = some true) (tX_NoCells : PySem.W.typeIn K (.ref cX_NoCells) = some (.type "type")) (hX_NoCells : PySem.W.hasDictIn K cX_NoCells = true)
    {cX_NotStill : Addr} (aX_NotStill : PySem.W.nsIn K mainGlobals "NotStill" = some (some (.ref cX_NotStill))) (kX_NotStill : PySem.W.keepIn K (.ref cX_NotStill) = true) (bX_NotStill : PySem.W.subIn K (.ref cX_NotStill) (.type "BaseException") = some true) (tX_NotStill : PySem.W.typeIn K (.ref cX_NotStill) = some (.type "type")) (hX_NotStill : PySem.W.hasDictIn K cX_NotStill = true)
    {cX_NoText : Addr} (aX_NoText : PySem.W.nsIn K mainGlobals "NoText" = some (some (.ref cX_NoText))) (kX_NoText : PySem.W.keepIn K (.ref cX_NoText) = true) (bX_NoText : PySem.W.subIn K (.ref cX_NoText) (.type "BaseException") = some true) (tX_NoText : PySem.W.typeIn K (.ref cX_NoText) = some (.type "type")) (hX_NoText : PySem.W.hasDictIn K cX_NoText = true)
    {cX_NoName : Addr} (aX_NoName : PySem.W.nsIn K mainGlobals "NoName" = some (some (.ref cX_NoName))) (kX_NoName : PySem.W.keepIn K (.ref cX_NoName) = true) (bX_NoName : PySem.W.subIn K (.ref cX_NoName) (.type "BaseException") = some true) (tX_NoName : PySem.W.typeIn K (.ref cX_NoName) = some (.type "type")) (hX_NoName : PySem.W.hasDictIn K cX_NoName = true)
    {fI_NoText : Addr} (iI_NoText : PySem.W.findIn K (.ref cX_NoText) "__init__" = some (some (.ref fI_NoText))) (tI_NoText : PySem.W.typeIn K (.ref fI_NoText) = some (.type "function")) (nI_NoText : PySem.W.findIn K (.ref cX_NoText) "row" = some none) (oI_NoText : DL.oexB K cX_NoText = true) (sI_NoText : PySem.W.findIn K (.ref cX_NoText) "__setattr__" = some (some (.builtin "object.__setattr__")))
    {odI_NoText anI_NoText : Option Addr} {slI_NoText : Array (Option Value)} {ocI_NoText kVI_NoText dcI_NoText pmI_NoText cdI_NoText ctI_NoText : Value} (lI_NoText : K.lookup fI_NoText = some ⟨ocI_NoText, odI_NoText, .func (PySem.W.fnOf "__init__" "NoText.__init__" (defArgs si_NoText) (defBody si_NoText) (defScope si_NoText) .none kVI_NoText dcI_NoText pmI_NoText anI_NoText cdI_NoText ctI_NoText), slI_NoText⟩) (cI_NoText : PySem.W.codeIn K cdI_NoText "NoText.__init__" = true) (kI_NoText : PySem.W.keepIn K (.ref fI_NoText) = true)
    (gB_LoftError : PySem.W.specialIn K (.ref cX_LoftError) "__getattribute__" = some (some (.builtin "type.__getattribute__"))) (rB_LoftError : PySem.W.readsIn K cX_LoftError (.type "type") = true) (vB_LoftError : PySem.W.findCls K (.ref cX_LoftError) (.type "type") "__init__" = some (.val (.builtin "ValueError.__init__")))
    (fG_NoText : PySem.W.findIn K (.ref cX_NoText) "__getattribute__" = some (some (.builtin "BaseException.__getattribute__"))) (fK_NoText : PySem.W.findIn K (.ref cX_NoText) "__getattr__" = some none)
    (sX_NoText_LoftError : PySem.W.subIn K (.ref cX_NoText) (.ref cX_LoftError) = some true)
    (en : PySem.W.specialIn K (.builtin "object.__class__") "__get__" = some (some (.builtin "getset_descriptor.__get__"))) (et : PySem.W.takesIn K (.builtin "object.__class__") = some true)
    (eg_NoText : PySem.W.findIn K (.ref cX_NoText) "__getattribute__" = some (some (.builtin "BaseException.__getattribute__"))) (ek_NoText : PySem.W.findIn K (.ref cX_NoText) "__getattr__" = some none) (ea_NoText : PySem.W.findIn K (.ref cX_NoText) "__class__" = some (some (.builtin "object.__class__"))) (em_NoText : PySem.W.mroIn K cX_NoText (.type "object") = some true) (es_NoText : PySem.W.subIn K (.ref cX_NoText) (.ref cX_NoText) = some true)
    (eT_NoText_TooMany : PySem.W.subIn K (.ref cX_NoText) (.ref cX_TooMany) = some false)
    (eT_NoText_NoRoom : PySem.W.subIn K (.ref cX_NoText) (.ref cX_NoRoom) = some false)
    (eT_NoText_NoRow : PySem.W.subIn K (.ref cX_NoText) (.ref cX_NoRow) = some false)
    (eT_NoText_NoLoft : PySem.W.subIn K (.ref cX_NoText) (.ref cX_NoLoft) = some false)
    (eT_NoText_NoCells : PySem.W.subIn K (.ref cX_NoText) (.ref cX_NoCells) = some false)
    (eT_NoText_NotStill : PySem.W.subIn K (.ref cX_NoText) (.ref cX_NotStill) = some false)
    (eT_NoText_NoText : PySem.W.subIn K (.ref cX_NoText) (.ref cX_NoText) = some true)
    (eT_NoText_NoName : PySem.W.subIn K (.ref cX_NoText) (.ref cX_NoName) = some false)
    (eB_NoText_ValueError : PySem.W.subIn K (.ref cX_NoText) (.type "ValueError") = some true)
    {f0 : Addr} {od0 an0 : Option Addr} {sl0 : Array (Option Value)} {oc0 kV0 dc0 pm0 cd0 ct0 : Value}
    (a0 : PySem.W.nsIn K mainGlobals "is_whole" = some (some (.ref f0)))
    (l0 : K.lookup f0 = some ⟨oc0, od0, .func (PySem.W.fnOf "is_whole" "is_whole" (defArgs s_is_whole) (defBody s_is_whole) (defScope s_is_whole) .none kV0 dc0 pm0 an0 cd0 ct0), sl0⟩) (c0 : PySem.W.codeIn K cd0 "is_whole" = true) (k0 : PySem.W.keepIn K (.ref f0) = true)
    {f1 : Addr} {od1 an1 : Option Addr} {sl1 : Array (Option Value)} {oc1 kV1 dc1 pm1 cd1 ct1 : Value}
    (a1 : PySem.W.nsIn K mainGlobals "is_within" = some (some (.ref f1)))
    (l1 : K.lookup f1 = some ⟨oc1, od1, .func (PySem.W.fnOf "is_within" "is_within" (defArgs s_is_within) (defBody s_is_within) (defScope s_is_within) .none kV1 dc1 pm1 an1 cd1 ct1), sl1⟩) (c1 : PySem.W.codeIn K cd1 "is_within" = true) (k1 : PySem.W.keepIn K (.ref f1) = true)
    {f2 : Addr} {od2 an2 : Option Addr} {sl2 : Array (Option Value)} {oc2 kV2 dc2 pm2 cd2 ct2 : Value}
    (a2 : PySem.W.nsIn K mainGlobals "is_name" = some (some (.ref f2)))
    (l2 : K.lookup f2 = some ⟨oc2, od2, .func (PySem.W.fnOf "is_name" "is_name" (defArgs s_is_name) (defBody s_is_name) (defScope s_is_name) .none kV2 dc2 pm2 an2 cd2 ct2), sl2⟩) (c2 : PySem.W.codeIn K cd2 "is_name" = true) (k2 : PySem.W.keepIn K (.ref f2) = true)
    {f3 : Addr} {od3 an3 : Option Addr} {sl3 : Array (Option Value)} {oc3 kV3 dc3 pm3 cd3 ct3 : Value}
    (a3 : PySem.W.nsIn K mainGlobals "is_machine" = some (some (.ref f3)))
    (l3 : K.lookup f3 = some ⟨oc3, od3, .func (PySem.W.fnOf "is_machine" "is_machine" (defArgs s_is_machine) (defBody s_is_machine) (defScope s_is_machine) .none kV3 dc3 pm3 an3 cd3 ct3), sl3⟩) (c3 : PySem.W.codeIn K cd3 "is_machine" = true) (k3 : PySem.W.keepIn K (.ref f3) = true)
    {f4 : Addr} {od4 an4 : Option Addr} {sl4 : Array (Option Value)} {oc4 kV4 dc4 pm4 cd4 ct4 : Value}
    (a4 : PySem.W.nsIn K mainGlobals "number_in" = some (some (.ref f4)))
    (l4 : K.lookup f4 = some ⟨oc4, od4, .func (PySem.W.fnOf "number_in" "number_in" (defArgs s_number_in) (defBody s_number_in) (defScope s_number_in) .none kV4 dc4 pm4 an4 cd4 ct4), sl4⟩) (c4 : PySem.W.codeIn K cd4 "number_in" = true) (k4 : PySem.W.keepIn K (.ref f4) = true)
    {f5 : Addr} {od5 an5 : Option Addr} {sl5 : Array (Option Value)} {oc5 kV5 dc5 pm5 cd5 ct5 : Value}
    (a5 : PySem.W.nsIn K mainGlobals "show_machine" = some (some (.ref f5)))
    (l5 : K.lookup f5 = some ⟨oc5, od5, .func (PySem.W.fnOf "show_machine" "show_machine" (defArgs s_show_machine) (defBody s_show_machine) (defScope s_show_machine) .none kV5 dc5 pm5 an5 cd5 ct5), sl5⟩) (c5 : PySem.W.codeIn K cd5 "show_machine" = true) (k5 : PySem.W.keepIn K (.ref f5) = true)
    {f6 : Addr} {od6 an6 : Option Addr} {sl6 : Array (Option Value)} {oc6 kV6 dc6 pm6 cd6 ct6 : Value}
    (a6 : PySem.W.nsIn K mainGlobals "read_machine" = some (some (.ref f6)))
    (l6 : K.lookup f6 = some ⟨oc6, od6, .func (PySem.W.fnOf "read_machine" "read_machine" (defArgs s_read_machine) (defBody s_read_machine) (defScope s_read_machine) .none kV6 dc6 pm6 an6 cd6 ct6), sl6⟩) (c6 : PySem.W.codeIn K cd6 "read_machine" = true) (k6 : PySem.W.keepIn K (.ref f6) = true)
    {f7 : Addr} {od7 an7 : Option Addr} {sl7 : Array (Option Value)} {oc7 kV7 dc7 pm7 cd7 ct7 : Value}
    (a7 : PySem.W.nsIn K mainGlobals "_law_sack" = some (some (.ref f7)))
    (l7 : K.lookup f7 = some ⟨oc7, od7, .func (PySem.W.fnOf "_law_sack" "_law_sack" (defArgs s__law_sack) (defBody s__law_sack) (defScope s__law_sack) .none kV7 dc7 pm7 an7 cd7 ct7), sl7⟩) (c7 : PySem.W.codeIn K cd7 "_law_sack" = true) (k7 : PySem.W.keepIn K (.ref f7) = true)
    {f8 : Addr} {od8 an8 : Option Addr} {sl8 : Array (Option Value)} {oc8 kV8 dc8 pm8 cd8 ct8 : Value}
    (a8 : PySem.W.nsIn K mainGlobals "_law_pull" = some (some (.ref f8)))
    (l8 : K.lookup f8 = some ⟨oc8, od8, .func (PySem.W.fnOf "_law_pull" "_law_pull" (defArgs s__law_pull) (defBody s__law_pull) (defScope s__law_pull) .none kV8 dc8 pm8 an8 cd8 ct8), sl8⟩) (c8 : PySem.W.codeIn K cd8 "_law_pull" = true) (k8 : PySem.W.keepIn K (.ref f8) = true)
    {f9 : Addr} {od9 an9 : Option Addr} {sl9 : Array (Option Value)} {oc9 kV9 dc9 pm9 cd9 ct9 : Value}
    (a9 : PySem.W.nsIn K mainGlobals "_law_names" = some (some (.ref f9)))
    (l9 : K.lookup f9 = some ⟨oc9, od9, .func (PySem.W.fnOf "_law_names" "_law_names" (defArgs s__law_names) (defBody s__law_names) (defScope s__law_names) .none kV9 dc9 pm9 an9 cd9 ct9), sl9⟩) (c9 : PySem.W.codeIn K cd9 "_law_names" = true) (k9 : PySem.W.keepIn K (.ref f9) = true)
    {f10 : Addr} {od10 an10 : Option Addr} {sl10 : Array (Option Value)} {oc10 kV10 dc10 pm10 cd10 ct10 : Value}
    (a10 : PySem.W.nsIn K mainGlobals "_law_own" = some (some (.ref f10)))
    (l10 : K.lookup f10 = some ⟨oc10, od10, .func (PySem.W.fnOf "_law_own" "_law_own" (defArgs s__law_own) (defBody s__law_own) (defScope s__law_own) .none kV10 dc10 pm10 an10 cd10 ct10), sl10⟩) (c10 : PySem.W.codeIn K cd10 "_law_own" = true) (k10 : PySem.W.keepIn K (.ref f10) = true)
    {f11 : Addr} {od11 an11 : Option Addr} {sl11 : Array (Option Value)} {oc11 kV11 dc11 pm11 cd11 ct11 : Value}
    (a11 : PySem.W.nsIn K mainGlobals "_law_is_name" = some (some (.ref f11)))
    (l11 : K.lookup f11 = some ⟨oc11, od11, .func (PySem.W.fnOf "_law_is_name" "_law_is_name" (defArgs s__law_is_name) (defBody s__law_is_name) (defScope s__law_is_name) .none kV11 dc11 pm11 an11 cd11 ct11), sl11⟩) (c11 : PySem.W.codeIn K cd11 "_law_is_name" = true) (k11 : PySem.W.keepIn K (.ref f11) = true)
    {f12 : Addr} {od12 an12 : Option Addr} {sl12 : Array (Option Value)} {oc12 kV12 dc12 pm12 cd12 ct12 : Value}
    (a12 : PySem.W.nsIn K mainGlobals "_law_same" = some (some (.ref f12)))
    (l12 : K.lookup f12 = some ⟨oc12, od12, .func (PySem.W.fnOf "_law_same" "_law_same" (defArgs s__law_same) (defBody s__law_same) (defScope s__law_same) .none kV12 dc12 pm12 an12 cd12 ct12), sl12⟩) (c12 : PySem.W.codeIn K cd12 "_law_same" = true) (k12 : PySem.W.keepIn K (.ref f12) = true)
    {f13 : Addr} {od13 an13 : Option Addr} {sl13 : Array (Option Value)} {oc13 kV13 dc13 pm13 cd13 ct13 : Value}
    (a13 : PySem.W.nsIn K mainGlobals "_law_changed" = some (some (.ref f13)))
    (l13 : K.lookup f13 = some ⟨oc13, od13, .func (PySem.W.fnOf "_law_changed" "_law_changed" (defArgs s__law_changed) (defBody s__law_changed) (defScope s__law_changed) .none kV13 dc13 pm13 an13 cd13 ct13), sl13⟩) (c13 : PySem.W.codeIn K cd13 "_law_changed" = true) (k13 : PySem.W.keepIn K (.ref f13) = true)
    {f14 : Addr} {od14 an14 : Option Addr} {sl14 : Array (Option Value)} {oc14 kV14 dc14 pm14 cd14 ct14 : Value}
    (a14 : PySem.W.nsIn K mainGlobals "_law_word_of" = some (some (.ref f14)))
    (l14 : K.lookup f14 = some ⟨oc14, od14, .func (PySem.W.fnOf "_law_word_of" "_law_word_of" (defArgs s__law_word_of) (defBody s__law_word_of) (defScope s__law_word_of) .none kV14 dc14 pm14 an14 cd14 ct14), sl14⟩) (c14 : PySem.W.codeIn K cd14 "_law_word_of" = true) (k14 : PySem.W.keepIn K (.ref f14) = true)
    {f15 : Addr} {od15 an15 : Option Addr} {sl15 : Array (Option Value)} {oc15 kV15 dc15 pm15 cd15 ct15 : Value}
    (a15 : PySem.W.nsIn K mainGlobals "_law_number" = some (some (.ref f15)))
    (l15 : K.lookup f15 = some ⟨oc15, od15, .func (PySem.W.fnOf "_law_number" "_law_number" (defArgs s__law_number) (defBody s__law_number) (defScope s__law_number) .none kV15 dc15 pm15 an15 cd15 ct15), sl15⟩) (c15 : PySem.W.codeIn K cd15 "_law_number" = true) (k15 : PySem.W.keepIn K (.ref f15) = true)
    {f16 : Addr} {od16 an16 : Option Addr} {sl16 : Array (Option Value)} {oc16 kV16 dc16 pm16 cd16 ct16 : Value}
    (a16 : PySem.W.nsIn K mainGlobals "_law_read" = some (some (.ref f16)))
    (l16 : K.lookup f16 = some ⟨oc16, od16, .func (PySem.W.fnOf "_law_read" "_law_read" (defArgs s__law_read) (defBody s__law_read) (defScope s__law_read) .none kV16 dc16 pm16 an16 cd16 ct16), sl16⟩) (c16 : PySem.W.codeIn K cd16 "_law_read" = true) (k16 : PySem.W.keepIn K (.ref f16) = true)
    {f17 : Addr} {od17 an17 : Option Addr} {sl17 : Array (Option Value)} {oc17 kV17 dc17 pm17 cd17 ct17 : Value}
    (a17 : PySem.W.nsIn K mainGlobals "_law_told" = some (some (.ref f17)))
    (l17 : K.lookup f17 = some ⟨oc17, od17, .func (PySem.W.fnOf "_law_told" "_law_told" (defArgs s__law_told) (defBody s__law_told) (defScope s__law_told) .none kV17 dc17 pm17 an17 cd17 ct17), sl17⟩) (c17 : PySem.W.codeIn K cd17 "_law_told" = true) (k17 : PySem.W.keepIn K (.ref f17) = true)
    {f18 : Addr} {od18 an18 : Option Addr} {sl18 : Array (Option Value)} {oc18 kV18 dc18 pm18 cd18 ct18 : Value}
    (a18 : PySem.W.nsIn K mainGlobals "_law_right" = some (some (.ref f18)))
    (l18 : K.lookup f18 = some ⟨oc18, od18, .func (PySem.W.fnOf "_law_right" "_law_right" (defArgs s__law_right) (defBody s__law_right) (defScope s__law_right) .none kV18 dc18 pm18 an18 cd18 ct18), sl18⟩) (c18 : PySem.W.codeIn K cd18 "_law_right" = true) (k18 : PySem.W.keepIn K (.ref f18) = true)
    {f19 : Addr} {od19 an19 : Option Addr} {sl19 : Array (Option Value)} {oc19 kV19 dc19 pm19 cd19 ct19 : Value}
    (a19 : PySem.W.nsIn K mainGlobals "law" = some (some (.ref f19)))
    (l19 : K.lookup f19 = some ⟨oc19, od19, .func (PySem.W.fnOf "law" "law" (defArgs s_law) (defBody s_law) (defScope s_law) .none kV19 dc19 pm19 an19 cd19 ct19), sl19⟩) (c19 : PySem.W.codeIn K cd19 "law" = true) (k19 : PySem.W.keepIn K (.ref f19) = true)
    (z_ValueError : PySem.W.nsIn K mainGlobals "ValueError" = some none)
    (z_all : PySem.W.nsIn K mainGlobals "all" = some none)
    (z_bool : PySem.W.nsIn K mainGlobals "bool" = some none)
    (z_enumerate : PySem.W.nsIn K mainGlobals "enumerate" = some none)
    (z_int : PySem.W.nsIn K mainGlobals "int" = some none)
    (z_isinstance : PySem.W.nsIn K mainGlobals "isinstance" = some none)
    (z_len : PySem.W.nsIn K mainGlobals "len" = some none)
    (z_list : PySem.W.nsIn K mainGlobals "list" = some none)
    (z_max : PySem.W.nsIn K mainGlobals "max" = some none)
    (z_min : PySem.W.nsIn K mainGlobals "min" = some none)
    (z_range : PySem.W.nsIn K mainGlobals "range" = some none)
    (z_set : PySem.W.nsIn K mainGlobals "set" = some none)
    (z_str : PySem.W.nsIn K mainGlobals "str" = some none)
    (z_tuple : PySem.W.nsIn K mainGlobals "tuple" = some none)
    (z_zip : PySem.W.nsIn K mainGlobals "zip" = some none)
    {t_MOST_BITS : Tok} (y_MOST_BITS : PySem.W.nsIn K mainGlobals "MOST_BITS" = some (some (.int 8 t_MOST_BITS)))
    {t_MOST_REGISTERS : Tok} (y_MOST_REGISTERS : PySem.W.nsIn K mainGlobals "MOST_REGISTERS" = some (some (.int 6 t_MOST_REGISTERS)))
    {t_MOST_HIDDEN : Tok} (y_MOST_HIDDEN : PySem.W.nsIn K mainGlobals "MOST_HIDDEN" = some (some (.int 12 t_MOST_HIDDEN)))
    {t_MOST_UNITS : Tok} (y_MOST_UNITS : PySem.W.nsIn K mainGlobals "MOST_UNITS" = some (some (.int 3 t_MOST_UNITS)))
    {t_MOST_SIGNS : Tok} (y_MOST_SIGNS : PySem.W.nsIn K mainGlobals "MOST_SIGNS" = some (some (.int 8 t_MOST_SIGNS)))
    {t_LETTERS : Tok} (y_LETTERS : PySem.W.nsIn K mainGlobals "LETTERS" = some (some (.str "abcdefghijklmnopqrstuvwxyz" t_LETTERS)))
    {t_FIGURES : Tok} (y_FIGURES : PySem.W.nsIn K mainGlobals "FIGURES" = some (some (.str "0123456789" t_FIGURES)))
    {t_MOST_FIGURES : Tok} (y_MOST_FIGURES : PySem.W.nsIn K mainGlobals "MOST_FIGURES" = some (some (.int 9 t_MOST_FIGURES)))
    {p_TAIL : Addr} {o_TAIL : Option Addr} {n_TAIL : Nat} {s_TAIL : Array (Option Value)} {t_TAIL_0 t_TAIL_1 t_TAIL_2 t_TAIL_3 : Tok} (l_TAIL : K.lookup p_TAIL = some ⟨.type "tuple", o_TAIL, .seq #[.str "hidden" t_TAIL_0, .str "alus" t_TAIL_1, .str "moves" t_TAIL_2, .str "cells" t_TAIL_3] n_TAIL, s_TAIL⟩)
    (y_TAIL : PySem.W.nsIn K mainGlobals "TAIL" = some (some (.ref p_TAIL)))
    : ∃ a : Ad, Tx w K mg a ∧ mg "law" = some (.ref a.f_law) ∧ ∀ (s : Shared) (v : Value), BindsTo s a.fd_law ⟨[v], []⟩ [("script", v)] := by
  refine ⟨⟨f0, PySem.W.fnOf "is_whole" "is_whole" (defArgs s_is_whole) (defBody s_is_whole) (defScope s_is_whole) .none kV0 dc0 pm0 an0 cd0 ct0, f1, PySem.W.fnOf "is_within" "is_within" (defArgs s_is_within) (defBody s_is_within) (defScope s_is_within) .none kV1 dc1 pm1 an1 cd1 ct1, f2, PySem.W.fnOf "is_name" "is_name" (defArgs s_is_name) (defBody s_is_name) (defScope s_is_name) .none kV2 dc2 pm2 an2 cd2 ct2, f3, PySem.W.fnOf "is_machine" "is_machine" (defArgs s_is_machine) (defBody s_is_machine) (defScope s_is_machine) .none kV3 dc3 pm3 an3 cd3 ct3, f4, PySem.W.fnOf "number_in" "number_in" (defArgs s_number_in) (defBody s_number_in) (defScope s_number_in) .none kV4 dc4 pm4 an4 cd4 ct4, f5, PySem.W.fnOf "show_machine" "show_machine" (defArgs s_show_machine) (defBody s_show_machine) (defScope s_show_machine) .none kV5 dc5 pm5 an5 cd5 ct5, f6, PySem.W.fnOf "read_machine" "read_machine" (defArgs s_read_machine) (defBody s_read_machine) (defScope s_read_machine) .none kV6 dc6 pm6 an6 cd6 ct6, f7, PySem.W.fnOf "_law_sack" "_law_sack" (defArgs s__law_sack) (defBody s__law_sack) (defScope s__law_sack) .none kV7 dc7 pm7 an7 cd7 ct7, f8, PySem.W.fnOf "_law_pull" "_law_pull" (defArgs s__law_pull) (defBody s__law_pull) (defScope s__law_pull) .none kV8 dc8 pm8 an8 cd8 ct8, f9, PySem.W.fnOf "_law_names" "_law_names" (defArgs s__law_names) (defBody s__law_names) (defScope s__law_names) .none kV9 dc9 pm9 an9 cd9 ct9, f10, PySem.W.fnOf "_law_own" "_law_own" (defArgs s__law_own) (defBody s__law_own) (defScope s__law_own) .none kV10 dc10 pm10 an10 cd10 ct10, f11, PySem.W.fnOf "_law_is_name" "_law_is_name" (defArgs s__law_is_name) (defBody s__law_is_name) (defScope s__law_is_name) .none kV11 dc11 pm11 an11 cd11 ct11, f12, PySem.W.fnOf "_law_same" "_law_same" (defArgs s__law_same) (defBody s__law_same) (defScope s__law_same) .none kV12 dc12 pm12 an12 cd12 ct12, f13, PySem.W.fnOf "_law_changed" "_law_changed" (defArgs s__law_changed) (defBody s__law_changed) (defScope s__law_changed) .none kV13 dc13 pm13 an13 cd13 ct13, f14, PySem.W.fnOf "_law_word_of" "_law_word_of" (defArgs s__law_word_of) (defBody s__law_word_of) (defScope s__law_word_of) .none kV14 dc14 pm14 an14 cd14 ct14, f15, PySem.W.fnOf "_law_number" "_law_number" (defArgs s__law_number) (defBody s__law_number) (defScope s__law_number) .none kV15 dc15 pm15 an15 cd15 ct15, f16, PySem.W.fnOf "_law_read" "_law_read" (defArgs s__law_read) (defBody s__law_read) (defScope s__law_read) .none kV16 dc16 pm16 an16 cd16 ct16, f17, PySem.W.fnOf "_law_told" "_law_told" (defArgs s__law_told) (defBody s__law_told) (defScope s__law_told) .none kV17 dc17 pm17 an17 cd17 ct17, f18, PySem.W.fnOf "_law_right" "_law_right" (defArgs s__law_right) (defBody s__law_right) (defScope s__law_right) .none kV18 dc18 pm18 an18 cd18 ct18, f19, PySem.W.fnOf "law" "law" (defArgs s_law) (defBody s_law) (defScope s_law) .none kV19 dc19 pm19 an19 cd19 ct19, cX_LoftError, cX_TooMany, cX_NoRoom, cX_NoRow, cX_NoLoft, cX_NoCells, cX_NotStill, cX_NoText, cX_NoName, fI_NoText, PySem.W.fnOf "__init__" "NoText.__init__" (defArgs si_NoText) (defBody si_NoText) (defScope si_NoText) .none kVI_NoText dcI_NoText pmI_NoText anI_NoText cdI_NoText ctI_NoText⟩, ?_, PySem.W.mg_of X G a19, fun s v => .of_eq rfl⟩
  exact ⟨fun_mk (st := s_is_whole) l0 c0 k0, (fun_mk (st := s_is_whole) l0 c0 k0).binds (fun _ _ _ _ _ _ us hl => match us, hl with | [_], _ => rfl), PySem.W.mg_of X G a0,
    fun_mk (st := s_is_within) l1 c1 k1, (fun_mk (st := s_is_within) l1 c1 k1).binds (fun _ _ _ _ _ _ us hl => match us, hl with | [_, _, _], _ => rfl), PySem.W.mg_of X G a1,
    fun_mk (st := s_is_name) l2 c2 k2, (fun_mk (st := s_is_name) l2 c2 k2).binds (fun _ _ _ _ _ _ us hl => match us, hl with | [_], _ => rfl), PySem.W.mg_of X G a2,
    fun_mk (st := s_is_machine) l3 c3 k3, (fun_mk (st := s_is_machine) l3 c3 k3).binds (fun _ _ _ _ _ _ us hl => match us, hl with | [_], _ => rfl), PySem.W.mg_of X G a3,
    fun_mk (st := s_number_in) l4 c4 k4, (fun_mk (st := s_number_in) l4 c4 k4).binds (fun _ _ _ _ _ _ us hl => match us, hl with | [_], _ => rfl), PySem.W.mg_of X G a4,
    fun_mk (st := s_show_machine) l5 c5 k5, (fun_mk (st := s_show_machine) l5 c5 k5).binds (fun _ _ _ _ _ _ us hl => match us, hl with | [_], _ => rfl), PySem.W.mg_of X G a5,
    fun_mk (st := s_read_machine) l6 c6 k6, (fun_mk (st := s_read_machine) l6 c6 k6).binds (fun _ _ _ _ _ _ us hl => match us, hl with | [_], _ => rfl), PySem.W.mg_of X G a6,
    fun_mk (st := s__law_sack) l7 c7 k7, (fun_mk (st := s__law_sack) l7 c7 k7).binds (fun _ _ _ _ _ _ us hl => match us, hl with | [_, _], _ => rfl), PySem.W.mg_of X G a7,
    fun_mk (st := s__law_pull) l8 c8 k8, (fun_mk (st := s__law_pull) l8 c8 k8).binds (fun _ _ _ _ _ _ us hl => match us, hl with | [_, _], _ => rfl), PySem.W.mg_of X G a8,
    fun_mk (st := s__law_names) l9 c9 k9, (fun_mk (st := s__law_names) l9 c9 k9).binds (fun _ _ _ _ _ _ us hl => match us, hl with | [_, _], _ => rfl), PySem.W.mg_of X G a9,
    fun_mk (st := s__law_own) l10 c10 k10, (fun_mk (st := s__law_own) l10 c10 k10).binds (fun _ _ _ _ _ _ us hl => match us, hl with | [_], _ => rfl), PySem.W.mg_of X G a10,
    fun_mk (st := s__law_is_name) l11 c11 k11, (fun_mk (st := s__law_is_name) l11 c11 k11).binds (fun _ _ _ _ _ _ us hl => match us, hl with | [_], _ => rfl), PySem.W.mg_of X G a11,
    fun_mk (st := s__law_same) l12 c12 k12, (fun_mk (st := s__law_same) l12 c12 k12).binds (fun _ _ _ _ _ _ us hl => match us, hl with | [_, _], _ => rfl), PySem.W.mg_of X G a12,
    fun_mk (st := s__law_changed) l13 c13 k13, (fun_mk (st := s__law_changed) l13 c13 k13).binds (fun _ _ _ _ _ _ us hl => match us, hl with | [_, _], _ => rfl), PySem.W.mg_of X G a13,
    fun_mk (st := s__law_word_of) l14 c14 k14, (fun_mk (st := s__law_word_of) l14 c14 k14).binds (fun _ _ _ _ _ _ us hl => match us, hl with | [_], _ => rfl), PySem.W.mg_of X G a14,
    fun_mk (st := s__law_number) l15 c15 k15, (fun_mk (st := s__law_number) l15 c15 k15).binds (fun _ _ _ _ _ _ us hl => match us, hl with | [_], _ => rfl), PySem.W.mg_of X G a15,
    fun_mk (st := s__law_read) l16 c16 k16, (fun_mk (st := s__law_read) l16 c16 k16).binds (fun _ _ _ _ _ _ us hl => match us, hl with | [_], _ => rfl), PySem.W.mg_of X G a16,
    fun_mk (st := s__law_told) l17 c17 k17, (fun_mk (st := s__law_told) l17 c17 k17).binds (fun _ _ _ _ _ _ us hl => match us, hl with | [_], _ => rfl), PySem.W.mg_of X G a17,
    fun_mk (st := s__law_right) l18 c18 k18, (fun_mk (st := s__law_right) l18 c18 k18).binds (fun _ _ _ _ _ _ us hl => match us, hl with | [_], _ => rfl), PySem.W.mg_of X G a18,
    fun_mk (st := s_law) l19 c19 k19, (fun_mk (st := s_law) l19 c19 k19).binds (fun _ _ _ _ _ _ us hl => match us, hl with | [_], _ => rfl), PySem.W.mg_of X G a19,
    PySem.W.mg_none_of X G z_ValueError,
    PySem.W.mg_none_of X G z_all,
    PySem.W.mg_none_of X G z_bool,
    PySem.W.mg_none_of X G z_enumerate,
    PySem.W.mg_none_of X G z_int,
    PySem.W.mg_none_of X G z_isinstance,
    PySem.W.mg_none_of X G z_len,
    PySem.W.mg_none_of X G z_list,
    PySem.W.mg_none_of X G z_max,
    PySem.W.mg_none_of X G z_min,
    PySem.W.mg_none_of X G z_range,
    PySem.W.mg_none_of X G z_set,
    PySem.W.mg_none_of X G z_str,
    PySem.W.mg_none_of X G z_tuple,
    PySem.W.mg_none_of X G z_zip,
    PySem.W.mg_of X G aX_LoftError, kX_LoftError, bX_LoftError, tX_LoftError, hX_LoftError,
    PySem.W.mg_of X G aX_TooMany, kX_TooMany, bX_TooMany, tX_TooMany, hX_TooMany,
    PySem.W.mg_of X G aX_NoRoom, kX_NoRoom, bX_NoRoom, tX_NoRoom, hX_NoRoom,
    PySem.W.mg_of X G aX_NoRow, kX_NoRow, bX_NoRow, tX_NoRow, hX_NoRow,
    PySem.W.mg_of X G aX_NoLoft, kX_NoLoft, bX_NoLoft, tX_NoLoft, hX_NoLoft,
    PySem.W.mg_of X G aX_NoCells, kX_NoCells, bX_NoCells, tX_NoCells, hX_NoCells,
    PySem.W.mg_of X G aX_NotStill, kX_NotStill, bX_NotStill, tX_NotStill, hX_NotStill,
    PySem.W.mg_of X G aX_NoText, kX_NoText, bX_NoText, tX_NoText, hX_NoText,
    PySem.W.mg_of X G aX_NoName, kX_NoName, bX_NoName, tX_NoName, hX_NoName,
    fun_mk (st := si_NoText) lI_NoText cI_NoText kI_NoText, (fun_mk (st := si_NoText) lI_NoText cI_NoText kI_NoText).binds (fun _ _ _ _ _ _ us hl => match us, hl with | [_, _], _ => rfl), fun s us ws h1 h2 => match us, ws, h1, h2 with | [_], [_], _, _ => .of_eq rfl, DL.oexB_ok oI_NoText sI_NoText bX_NoText tX_NoText kX_NoText, iI_NoText, tI_NoText, nI_NoText,
    gB_LoftError, rB_LoftError, vB_LoftError,
    ⟨fG_NoText, fK_NoText, bX_NoText, hX_NoText⟩,
    PySem.W.exm_ref bX_LoftError hX_LoftError tX_LoftError sX_NoText_LoftError,
    ⟨eg_NoText, ek_NoText, bX_NoText, hX_NoText, ea_NoText, en, et, em_NoText⟩,
    kit_no hX_TooMany tX_TooMany eT_NoText_TooMany es_NoText,
    kit_no hX_NoRoom tX_NoRoom eT_NoText_NoRoom es_NoText,
    kit_no hX_NoRow tX_NoRow eT_NoText_NoRow es_NoText,
    kit_no hX_NoLoft tX_NoLoft eT_NoText_NoLoft es_NoText,
    kit_no hX_NoCells tX_NoCells eT_NoText_NoCells es_NoText,
    kit_no hX_NotStill tX_NotStill eT_NoText_NotStill es_NoText,
    kit_yes hX_NoText tX_NoText eT_NoText_NoText,
    kit_no hX_NoName tX_NoName eT_NoText_NoName es_NoText,
    kit_tyB (by decide +kernel) eB_NoText_ValueError,
    ⟨_, PySem.W.mg_of X G y_MOST_BITS⟩,
    ⟨_, PySem.W.mg_of X G y_MOST_REGISTERS⟩,
    ⟨_, PySem.W.mg_of X G y_MOST_HIDDEN⟩,
    ⟨_, PySem.W.mg_of X G y_MOST_UNITS⟩,
    ⟨_, PySem.W.mg_of X G y_MOST_SIGNS⟩,
    ⟨_, PySem.W.mg_of X G y_LETTERS⟩,
    ⟨_, PySem.W.mg_of X G y_FIGURES⟩,
    ⟨_, PySem.W.mg_of X G y_MOST_FIGURES⟩,
    ⟨_, PySem.W.mg_of X G y_TAIL, (kc_tup ["hidden", "alus", "moves", "cells"] l_TAIL (.cons ⟨_, rfl⟩ (.cons ⟨_, rfl⟩ (.cons ⟨_, rfl⟩ (.cons ⟨_, rfl⟩ .nil)))) (small_line (show 4 ≤ 1000 by decide)))⟩⟩
end K15
open PySem PySem.W PyProof.Rows
set_option maxHeartbeats 0 in
theorem PySem.Challenge.cw_steploft_k15_texts_of_no_machine_holds : PySem.Challenge.rw_steploft_k15_texts_of_no_machine.Holds := by
  w_on; o_law; k_head; (case hw => w_witness2)
  k_fill
  refine L2.walk_ofB (l := PySem.Challenge.rw_steploft_k15_texts_of_no_machine) (n := 63) (k := 7) (x := "script") (CX := fun _ => L2.CX0) (sp := fun w => K15.spV_law _) rfl (by decide) rfl ⟨rfl, by decide, by decide⟩ (fun w h Y => PySem.W.kIn_of Y) ?F (fun _ H a ns hl hb _ hS => K15.spV_at hl hb hS) (fun _ _ _ _ _ h => h)
  case F =>
    intro w mg fa h KX G hmg
    have z := DL.at_K KX (fun K' => ∃ a : K15.Ad, K15.Tx w K' mg a ∧ mg "law" = some (.ref a.f_law) ∧ ∀ (s : Shared) (v : Value), BindsTo s a.fd_law ⟨[v], []⟩ [("script", v)]) (by
      refine' K15.all_mk KX G ?aX_LoftError ?kX_LoftError ?bX_LoftError ?tX_LoftError ?hX_LoftError ?aX_TooMany ?kX_TooMany ?bX_TooMany ?tX_TooMany ?hX_TooMany ?aX_NoRoom ?kX_NoRoom ?bX_NoRoom ?tX_NoRoom ?hX_NoRoom ?aX_NoRow ?kX_NoRow ?bX_NoRow ?tX_NoRow ?hX_NoRow ?aX_NoLoft ?kX_NoLoft ?bX_NoLoft ?tX_NoLoft ?hX_NoLoft ?aX_NoCells ?kX_NoCells ?bX_NoCells ?tX_NoCells ?hX_NoCells ?aX_NotStill ?kX_NotStill ?bX_NotStill ?tX_NotStill ?hX_NotStill ?aX_NoText ?kX_NoText ?bX_NoText ?tX_NoText ?hX_NoText ?aX_NoName ?kX_NoName ?bX_NoName ?tX_NoName ?hX_NoName ?iI_NoText ?tI_NoText ?nI_NoText ?oI_NoText ?sI_NoText ?lI_NoText ?cI_NoText ?kI_NoText ?gB_LoftError ?rB_LoftError ?vB_LoftError ?fG_NoText ?fK_NoText ?sX_NoText_LoftError ?en ?et ?eg_NoText ?ek_NoText ?ea_NoText ?em_NoText ?es_NoText ?eT_NoText_TooMany ?eT_NoText_NoRoom ?eT_NoText_NoRow ?eT_NoText_NoLoft ?eT_NoText_NoCells ?eT_NoText_NotStill ?eT_NoText_NoText ?eT_NoText_NoName ?eB_NoText_ValueError ?a0 ?l0 ?c0 ?k0 ?a1 ?l1 ?c1 ?k1 ?a2 ?l2 ?c2 ?k2 ?a3 ?l3 ?c3 ?k3 ?a4 ?l4 ?c4 ?k4 ?a5 ?l5 ?c5 ?k5 ?a6 ?l6 ?c6 ?k6 ?a7 ?l7 ?c7 ?k7 ?a8 ?l8 ?c8 ?k8 ?a9 ?l9 ?c9 ?k9 ?a10 ?l10 ?c10 ?k10 ?a11 ?l11 ?c11 ?k11 ?a12 ?l12 ?c12 ?k12 ?a13 ?l13 ?c13 ?k13 ?a14 ?l14 ?c14 ?k14 ?a15 ?l15 ?c15 ?k15 ?a16 ?l16 ?c16 ?k16 ?a17 ?l17 ?c17 ?k17 ?a18 ?l18 ?c18 ?k18 ?a19 ?l19 ?c19 ?k19 ?z_ValueError ?z_all ?z_bool ?z_enumerate ?z_int ?z_isinstance ?z_len ?z_list ?z_max ?z_min ?z_range ?z_set ?z_str ?z_tuple ?z_zip ?y_MOST_BITS ?y_MOST_REGISTERS ?y_MOST_HIDDEN ?y_MOST_UNITS ?y_MOST_SIGNS ?y_LETTERS ?y_FIGURES ?y_MOST_FIGURES ?l_TAIL ?y_TAIL
      (case aX_LoftError => k_is); (case kX_LoftError => k_is); (case bX_LoftError => k_is); (case tX_LoftError => k_is); (case hX_LoftError => k_is); (case aX_TooMany => k_is); (case kX_TooMany => k_is); (case bX_TooMany => k_is); (case tX_TooMany => k_is); (case hX_TooMany => k_is); (case aX_NoRoom => k_is); (case kX_NoRoom => k_is); (case bX_NoRoom => k_is); (case tX_NoRoom => k_is); (case hX_NoRoom => k_is); (case aX_NoRow => k_is); (case kX_NoRow => k_is); (case bX_NoRow => k_is); (case tX_NoRow => k_is); (case hX_NoRow => k_is); (case aX_NoLoft => k_is); (case kX_NoLoft => k_is); (case bX_NoLoft => k_is); (case tX_NoLoft => k_is); (case hX_NoLoft => k_is); (case aX_NoCells => k_is); (case kX_NoCells => k_is); (case bX_NoCells => k_is); (case tX_NoCells => k_is); (case hX_NoCells => k_is); (case aX_NotStill => k_is); (case kX_NotStill => k_is); (case bX_NotStill => k_is); (case tX_NotStill => k_is); (case hX_NotStill => k_is); (case aX_NoText => k_is); (case kX_NoText => k_is); (case bX_NoText => k_is); (case tX_NoText => k_is); (case hX_NoText => k_is); (case aX_NoName => k_is); (case kX_NoName => k_is); (case bX_NoName => k_is); (case tX_NoName => k_is); (case hX_NoName => k_is); (case iI_NoText => k_is); (case tI_NoText => k_is); (case nI_NoText => k_is); (case oI_NoText => kernel_rfl); (case sI_NoText => k_is); (case lI_NoText => k_is); (case cI_NoText => k_is); (case kI_NoText => k_is); (case gB_LoftError => first | k_is | kernel_rfl); (case rB_LoftError => first | k_is | kernel_rfl); (case vB_LoftError => first | k_is | kernel_rfl); (case fG_NoText => k_is); (case fK_NoText => k_is); (case sX_NoText_LoftError => k_is); (case en => k_is); (case et => k_is); (case eg_NoText => k_is); (case ek_NoText => k_is); (case ea_NoText => k_is); (case em_NoText => first | rfl | k_is); (case es_NoText => first | rfl | k_is); (case eT_NoText_TooMany => first | rfl | k_is); (case eT_NoText_NoRoom => first | rfl | k_is); (case eT_NoText_NoRow => first | rfl | k_is); (case eT_NoText_NoLoft => first | rfl | k_is); (case eT_NoText_NoCells => first | rfl | k_is); (case eT_NoText_NotStill => first | rfl | k_is); (case eT_NoText_NoText => first | rfl | k_is); (case eT_NoText_NoName => first | rfl | k_is); (case eB_NoText_ValueError => first | rfl | k_is); (case a0 => k_is); (case l0 => k_is); (case c0 => k_is); (case k0 => k_is); (case a1 => k_is); (case l1 => k_is); (case c1 => k_is); (case k1 => k_is); (case a2 => k_is); (case l2 => k_is); (case c2 => k_is); (case k2 => k_is); (case a3 => k_is); (case l3 => k_is); (case c3 => k_is); (case k3 => k_is); (case a4 => k_is); (case l4 => k_is); (case c4 => k_is); (case k4 => k_is); (case a5 => k_is); (case l5 => k_is); (case c5 => k_is); (case k5 => k_is); (case a6 => k_is); (case l6 => k_is); (case c6 => k_is); (case k6 => k_is); (case a7 => k_is); (case l7 => k_is); (case c7 => k_is); (case k7 => k_is); (case a8 => k_is); (case l8 => k_is); (case c8 => k_is); (case k8 => k_is); (case a9 => k_is); (case l9 => k_is); (case c9 => k_is); (case k9 => k_is); (case a10 => k_is); (case l10 => k_is); (case c10 => k_is); (case k10 => k_is); (case a11 => k_is); (case l11 => k_is); (case c11 => k_is); (case k11 => k_is); (case a12 => k_is); (case l12 => k_is); (case c12 => k_is); (case k12 => k_is); (case a13 => k_is); (case l13 => k_is); (case c13 => k_is); (case k13 => k_is); (case a14 => k_is); (case l14 => k_is); (case c14 => k_is); (case k14 => k_is); (case a15 => k_is); (case l15 => k_is); (case c15 => k_is); (case k15 => k_is); (case a16 => k_is); (case l16 => k_is); (case c16 => k_is); (case k16 => k_is); (case a17 => k_is); (case l17 => k_is); (case c17 => k_is); (case k17 => k_is); (case a18 => k_is); (case l18 => k_is); (case c18 => k_is); (case k18 => k_is); (case a19 => k_is); (case l19 => k_is); (case c19 => k_is); (case k19 => k_is); (case z_ValueError => k_is); (case z_all => k_is); (case z_bool => k_is); (case z_enumerate => k_is); (case z_int => k_is); (case z_isinstance => k_is); (case z_len => k_is); (case z_list => k_is); (case z_max => k_is); (case z_min => k_is); (case z_range => k_is); (case z_set => k_is); (case z_str => k_is); (case z_tuple => k_is); (case z_zip => k_is); (case y_MOST_BITS => k_is); (case y_MOST_REGISTERS => k_is); (case y_MOST_HIDDEN => k_is); (case y_MOST_UNITS => k_is); (case y_MOST_SIGNS => k_is); (case y_LETTERS => k_is); (case y_FIGURES => k_is); (case y_MOST_FIGURES => k_is); (case y_TAIL => k_is); (case l_TAIL => k_is))
    obtain ⟨a, T, hm, hb⟩ := z
    have e := hmg.symm.trans hm
    cases e
    exact ⟨_, hb, fun base _ _ => K15.ok_law T⟩




