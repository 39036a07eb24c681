import PyProof.Rows.All
import Wide.All
import OpenK.AllK
import Wide.FinOn
import HandS.ForMost
import HandS.Nested
import HandS.Wide
import HandS.WideBits
import HandS.TupAny
import HandS.IsInst
import HandS.Style
import HandS.Strs
import HandS.Zip
import HandS.EndBits
import KE.KUnpackStar
import HandS.More
import KE.GoesNew
import KE.GoesMore
import KE.GoesEnum
import PyProof.EqKinds
import PyProof.FactsAll.dict_1
import PyProof.FactsAll.subtypes_3
import PyProof.FactsAll.subtypes_4
import PyProof.Rows.EqBoolInt
import KE.SortKeyed
import HandS.SortKw
import HandS.Deep
import KE.DataFind
import KE.DataCmp
import HandS.CallLocal
import PyProof.FitsInt
import HandS.RaiseMore
import PyProof.TupleKey
import HandS.TupSets
import PyProof.SumAny
import HandS.NoneIn
import HandS.Conv
import KE.DatumOrd
import PyProof.MaxThree
import KE.KDictZip
import HandS.Small
import PyProof.Rows.TupAdd
import KE.SortData
import KE.KDictList
import KE.KDictPairs
import HandS.ExcCtx
import HandS.ExcOwn
import HandS.TryOnly
import HandS.WordsExc
import HandS.DictComp
import KE.KAsSuite
import HandS.TryMany
import HandS.ExcIs
import HandS.ExcValue
import HandS.TupLen
import KE.KDictCopyH
import HandS.TupMul
import HandS.FStr
import HandS.Finally
import HandS.Defaults
import KE.GoesZip
import HandS.EndTab
import KE.DataMinMax
import PyProof.Rows.RowBridgeK
import PySem.Challenge.RW_steploft_k64_ways_that_are_not_safe
set_option Elab.async false
set_option linter.all false
set_option maxRecDepth 100000
set_option maxHeartbeats 4000000
namespace DL
open PySem PySem.Spec PyProof.Rows L2
set_option autoImplicit false

/-! ### data -/
/-- data: lst is a list that nobody changes any more; ref a thing that G knows (or that doesn't matter); any: some thing of this type -/
inductive D where
  | non | bl (b : Bool) | int (i : Int) | str (x : Str) | ty (n : String) | ref (a : Addr) | any (n : String) | nt (zs : List Str) | tup (ds : List D) | lst (ds : List D)
/-- what stands at an address, by data -/
inductive GO where
  | lst (ds : List D) | dK (kvs : List (Key × D)) | dT (kvs : List (List Key × D)) | ins (C dx : Addr) (fs : List (Str × D)) | dX (ok : List (D × D) → Prop) (hs : D → Int) (kvs : List (D × D)) | ex (cls : Value) (fs : List (Str × D)) | tab (q : Str)
abbrev Gp := Addr → Option GO
def gup (G : Gp) (a : Addr) (o : GO) : Gp := fun b => if b = a then some o else G b
theorem gup_same {G : Gp} {a : Addr} {o : GO} : gup G a o a = some o := by unfold gup; rw [if_pos rfl]
theorem gup_ne {G : Gp} {a b : Addr} {o : GO} (h : b ≠ a) : gup G a o b = G b := by unfold gup; rw [if_neg h]
theorem gup_gup {G : Gp} {a : Addr} {o u : GO} : gup (gup G a o) a u = gup G a u := by
  funext b; unfold gup; split <;> rfl
theorem gne {G : Gp} {a b : Addr} {o : GO} (h : G a = some o) (h' : G b = none) : a ≠ b := by
  intro e; subst e; rw [h] at h'; cases h'
def knd : HO → String
  | .lst _ => "list" | .tup _ => "tuple" | .dK _ => "dict" | .dT _ => "dict" | .set _ _ => "set" | .ins _ _ _ => "ins" | .frz _ (.lst _) => "list" | .frz _ (.tup _) => "tuple" | .frz _ (.dK _) => "dict" | _ => ""
abbrev Ns := Addr → Prop
def nadd (N : Ns) (p : Addr) : Ns := fun q => q = p ∨ N q
def ndel (N : Ns) (p : Addr) : Ns := fun q => q ≠ p ∧ N q
/-- a list that nobody changes: N tells the addresses of which this is not said -/
def LstAt (K : PySem.W.Frag) (H : Hp) (N : Ns) (a : Addr) (xs : List V) : Prop :=
  (H a = some (.lst xs) ∧ ¬ N a) ∨ (∃ o, H a = some (.frz o (.lst xs))) ∨ ∃ (o : Obj) (its : Array Value) (n : Nat), K.lookup a = some o ∧ o.cls = .type "list" ∧ o.dict = none ∧ o.data = .seq its n ∧ its.size ≤ sizeLine ∧ Vals xs its.toList
theorem LstAt.sq {K : PySem.W.Frag} {H : Hp} {N : Ns} {a : Addr} {xs : List V} (h : LstAt K H N a xs) : SqL K H a xs := by
  rcases h with h | h | h
  · exact .inl (.inl h.1)
  · exact .inl (.inr h)
  · exact .inr h
/-- a tuple of texts of which it is known that it has no dict (its methods may be called) -/
def NtAt (K : PySem.W.Frag) (H : Hp) (p : Addr) (zs : List Str) : Prop :=
  (∃ o, H p = some (.frz o (.tup (zs.map V.str))) ∧ o.cls = .type "tuple" ∧ o.dict = none) ∨ ∃ (o : Obj) (its : Array Value) (n : Nat), K.lookup p = some o ∧ o.cls = .type "tuple" ∧ o.dict = none ∧ o.data = .seq its n ∧ its.size ≤ sizeLine ∧ Vals (zs.map V.str) its.toList
theorem NtAt.sq {K : PySem.W.Frag} {H : Hp} {p : Addr} {zs : List Str} (h : NtAt K H p zs) : SqT K H p (zs.map V.str) := by
  rcases h with ⟨o, h, _⟩ | ⟨o, its, n, h1, h2, h3, h4, h5, h6⟩
  · exact .inl (.inr ⟨o, h⟩)
  · exact .inr ⟨o, its, n, h1, h2, h4, h5, h6⟩
mutual
def RD (K : PySem.W.Frag) (H : Hp) (N : Ns) : D → V → Prop
  | .non, v => v = .non
  | .bl b, v => v = .bl b
  | .int i, v => v = .int i
  | .str x, v => v = .str x
  | .ty n, v => v = .ty n
  | .ref a, v => v = .ref a
  | .any n, v => ∃ a u, v = .ref a ∧ H a = some u ∧ knd u = n
  | .nt zs, v => ∃ p, v = .ref p ∧ NtAt K H p zs
  | .tup ds, v => ∃ p vs, v = .ref p ∧ SqT K H p vs ∧ RDs K H N ds vs
  | .lst ds, v => ∃ p vs, v = .ref p ∧ LstAt K H N p vs ∧ RDs K H N ds vs
def RDs (K : PySem.W.Frag) (H : Hp) (N : Ns) : List D → List V → Prop
  | [], vs => vs = []
  | d :: ds, vs => ∃ v r, vs = v :: r ∧ RD K H N d v ∧ RDs K H N ds r
end
structure KLe (H H' : Hp) : Prop where
  tup : ∀ p xs, H p = some (.tup xs) → H' p = some (.tup xs)
  ktup : ∀ p o xs, H p = some (.frz o (.tup xs)) → H' p = some (.frz o (.tup xs))
  klst : ∀ p o xs, H p = some (.frz o (.lst xs)) → H' p = some (.frz o (.lst xs))
  kind : ∀ p u, H p = some u → ∃ u', H' p = some u' ∧ knd u' = knd u
  kxd : ∀ p fs, H p = some (.xd fs) → H' p = some (.xd fs)
  kco : ∀ p q, H p = some (LamX.CodeO p q) → H' p = some (LamX.CodeO p q)
theorem KLe.refl (H : Hp) : KLe H H := ⟨fun _ _ h => h, fun _ _ _ h => h, fun _ _ _ h => h, fun _ u h => ⟨u, h, rfl⟩, fun _ _ h => h, fun _ _ h => h⟩
theorem KLe.trans {H H1 H2 : Hp} (a : KLe H H1) (b : KLe H1 H2) : KLe H H2 :=
  ⟨fun p xs h => b.tup p xs (a.tup p xs h), fun p o xs h => b.ktup p o xs (a.ktup p o xs h), fun p o xs h => b.klst p o xs (a.klst p o xs h), fun p u h => by
    obtain ⟨u1, h1, e1⟩ := a.kind p u h
    obtain ⟨u2, h2, e2⟩ := b.kind p u1 h1
    exact ⟨u2, h2, e2.trans e1⟩, fun p fs h => b.kxd p fs (a.kxd p fs h), fun p q h => b.kco p q (a.kco p q h)⟩
theorem KLe.fresh {H : Hp} {p : Addr} {o : HO} (h : H p = none) : KLe H (upd H p o) :=
  ⟨fun q xs e => by rw [upd_ne (ne_of_none e h)]; exact e, fun q _ xs e => by rw [upd_ne (ne_of_none e h)]; exact e, fun q _ xs e => by rw [upd_ne (ne_of_none e h)]; exact e, fun q u e => ⟨u, by rw [upd_ne (ne_of_none e h)]; exact e, rfl⟩, fun q fs e => by rw [upd_ne (ne_of_none e h)]; exact e, fun q fs e => by rw [upd_ne (ne_of_none e h)]; exact e⟩
def mutH : HO → Bool
  | .lst _ => true | .dK _ => true | .dT _ => true | .ins _ _ _ => true | .set _ _ => true | _ => false
def mutX : HO → Bool
  | .lst _ => true | .dK _ => true | .dT _ => true | .ins _ _ _ => true | .set _ _ => true | .ext _ => true | .tbl _ => true | _ => false
/-- what may be changed: no code object -/
def Chg (p : Addr) (u : HO) : Prop := mutX u = true ∧ ∀ q, u ≠ LamX.CodeO p q
theorem Chg.of {p : Addr} {u : HO} (m : mutH u = true) : Chg p u := by
  refine ⟨?_, fun q e => ?_⟩
  · cases u <;> first | rfl | (cases m)
  · rw [e] at m; cases m
theorem KLe.writeC {H : Hp} {p : Addr} {o u : HO} (h : H p = some u) (m : Chg p u) (k : knd o = knd u) : KLe H (upd H p o) := by
  have ne : ∀ q x, H q = some x → mutX x = false → q ≠ p := fun q x e n z => by
    subst z; rw [h] at e; cases e; rw [m.1] at n; cases n
  refine ⟨fun q xs e => ?_, fun q _ xs e => ?_, fun q _ xs e => ?_, fun q x e => ?_, fun q fs e => by rw [upd_ne (ne q _ e rfl)]; exact e, fun q z e => ?_⟩
  · rw [upd_ne (ne q _ e rfl)]; exact e
  · rw [upd_ne (ne q _ e rfl)]; exact e
  · rw [upd_ne (ne q _ e rfl)]; exact e
  · by_cases z : q = p
    · subst z; rw [h] at e; cases e; exact ⟨o, upd_same, k⟩
    · exact ⟨x, by rw [upd_ne z]; exact e, rfl⟩
  · have hq : q ≠ p := fun y => by
      subst y; rw [h] at e; exact m.2 z (Option.some.inj e)
    rw [upd_ne hq]; exact e
theorem KLe.write {H : Hp} {p : Addr} {o u : HO} (h : H p = some u) (m : mutH u = true) (k : knd o = knd u) : KLe H (upd H p o) := KLe.writeC h (.of m) k
/-- data stay data -/
structure Kp (H : Hp) (N : Ns) (H' : Hp) (N' : Ns) : Prop where
  kle : KLe H H'
  nv : ∀ p xs, H p = some (.lst xs) → ¬ N p → H' p = some (.lst xs) ∧ ¬ N' p
theorem Kp.refl (H : Hp) (N : Ns) : Kp H N H N := ⟨KLe.refl H, fun _ _ h n => ⟨h, n⟩⟩
theorem Kp.trans {H H1 H2 : Hp} {N N1 N2 : Ns} (a : Kp H N H1 N1) (b : Kp H1 N1 H2 N2) : Kp H N H2 N2 :=
  ⟨a.kle.trans b.kle, fun p u h n => by obtain ⟨h1, n1⟩ := a.nv p u h n; exact b.nv p u h1 n1⟩
theorem SqT.le {K : PySem.W.Frag} {H H' : Hp} {a : Addr} {xs : List V} (l : KLe H H') (h : SqT K H a xs) : SqT K H' a xs := by
  rcases h with (h | ⟨o, h⟩) | h
  · exact .inl (.inl (l.tup _ _ h))
  · exact .inl (.inr ⟨o, l.ktup _ _ _ h⟩)
  · exact .inr h
theorem LstAt.le {K : PySem.W.Frag} {H H' : Hp} {N N' : Ns} {a : Addr} {xs : List V} (l : Kp H N H' N') (h : LstAt K H N a xs) : LstAt K H' N' a xs := by
  rcases h with ⟨h, n⟩ | ⟨o, h⟩ | h
  · exact .inl (l.nv _ _ h n)
  · exact .inr (.inl ⟨o, l.kle.klst _ _ _ h⟩)
  · exact .inr (.inr h)
mutual
theorem RD.le {K : PySem.W.Frag} {H H' : Hp} {N N' : Ns} (l : Kp H N H' N') : ∀ {d : D} {v : V}, RD K H N d v → RD K H' N' d v
  | .non, _, h => by simpa only [RD] using h
  | .bl _, _, h => by simpa only [RD] using h
  | .int _, _, h => by simpa only [RD] using h
  | .str _, _, h => by simpa only [RD] using h
  | .ty _, _, h => by simpa only [RD] using h
  | .ref _, _, h => by simpa only [RD] using h
  | .any n, v, h => by
    simp only [RD] at h ⊢
    obtain ⟨a, u, e, hu, k⟩ := h
    obtain ⟨u', hu', k'⟩ := l.kle.kind a u hu
    exact ⟨a, u', e, hu', k'.trans k⟩
  | .nt zs, v, h => by
    simp only [RD] at h ⊢
    obtain ⟨p, e, s⟩ := h
    refine ⟨p, e, ?_⟩
    rcases s with ⟨o, s, r⟩ | s
    · exact .inl ⟨o, l.kle.ktup _ _ _ s, r⟩
    · exact .inr s
  | .tup ds, v, h => by
    simp only [RD] at h ⊢
    obtain ⟨p, vs, e, s, r⟩ := h
    exact ⟨p, vs, e, SqT.le l.kle s, RDs.le l r⟩
  | .lst ds, v, h => by
    simp only [RD] at h ⊢
    obtain ⟨p, vs, e, s, r⟩ := h
    exact ⟨p, vs, e, LstAt.le l s, RDs.le l r⟩
theorem RDs.le {K : PySem.W.Frag} {H H' : Hp} {N N' : Ns} (l : Kp H N H' N') : ∀ {ds : List D} {vs : List V}, RDs K H N ds vs → RDs K H' N' ds vs
  | [], _, h => by simpa only [RDs] using h
  | d :: ds, _, h => by
    simp only [RDs] at h ⊢
    obtain ⟨v, r, e, h1, h2⟩ := h
    exact ⟨v, r, e, RD.le l h1, RDs.le l h2⟩
end
section
variable {K : PySem.W.Frag} {H : Hp} {N : Ns}
theorem RD.non : RD K H N .non .non := by simp only [RD]
theorem RD.bl (b : Bool) : RD K H N (.bl b) (.bl b) := by simp only [RD]
theorem RD.int (i : Int) : RD K H N (.int i) (.int i) := by simp only [RD]
theorem RD.str (x : Str) : RD K H N (.str x) (.str x) := by simp only [RD]
theorem RD.ty (n : String) : RD K H N (.ty n) (.ty n) := by simp only [RD]
theorem RD.ref (a : Addr) : RD K H N (.ref a) (.ref a) := by simp only [RD]
theorem RD.tup {ds : List D} {p : Addr} {vs : List V} (s : SqT K H p vs) (r : RDs K H N ds vs) : RD K H N (.tup ds) (.ref p) := by simp only [RD]; exact ⟨p, vs, rfl, s, r⟩
theorem RD.lst {ds : List D} {p : Addr} {vs : List V} (s : LstAt K H N p vs) (r : RDs K H N ds vs) : RD K H N (.lst ds) (.ref p) := by simp only [RD]; exact ⟨p, vs, rfl, s, r⟩
theorem RD.of_non {v : V} (h : RD K H N .non v) : v = .non := by simpa only [RD] using h
theorem RD.of_bl {b : Bool} {v : V} (h : RD K H N (.bl b) v) : v = .bl b := by simpa only [RD] using h
theorem RD.of_int {i : Int} {v : V} (h : RD K H N (.int i) v) : v = .int i := by simpa only [RD] using h
theorem RD.of_str {i : Str} {v : V} (h : RD K H N (.str i) v) : v = .str i := by simpa only [RD] using h
theorem RD.of_ty {i : String} {v : V} (h : RD K H N (.ty i) v) : v = .ty i := by simpa only [RD] using h
theorem RD.of_ref {i : Addr} {v : V} (h : RD K H N (.ref i) v) : v = .ref i := by simpa only [RD] using h
theorem RD.of_any {n : String} {v : V} (h : RD K H N (.any n) v) : ∃ a u, v = .ref a ∧ H a = some u ∧ knd u = n := by simpa only [RD] using h
theorem RD.of_tup {ds : List D} {v : V} (h : RD K H N (.tup ds) v) : ∃ p vs, v = .ref p ∧ SqT K H p vs ∧ RDs K H N ds vs := by simpa only [RD] using h
theorem RD.of_nt {zs : List Str} {v : V} (h : RD K H N (.nt zs) v) : ∃ p, v = .ref p ∧ NtAt K H p zs := by simpa only [RD] using h
theorem RD.of_lst {ds : List D} {v : V} (h : RD K H N (.lst ds) v) : ∃ p vs, v = .ref p ∧ LstAt K H N p vs ∧ RDs K H N ds vs := by simpa only [RD] using h
theorem RDs.nil : RDs K H N [] [] := by simp only [RDs]
theorem RDs.cons {d : D} {ds : List D} {v : V} {vs : List V} (h : RD K H N d v) (t : RDs K H N ds vs) : RDs K H N (d :: ds) (v :: vs) := by simp only [RDs]; exact ⟨v, vs, rfl, h, t⟩
theorem RDs.of_nil {vs : List V} (h : RDs K H N [] vs) : vs = [] := by simpa only [RDs] using h
theorem RDs.of_cons {d : D} {ds : List D} {vs : List V} (h : RDs K H N (d :: ds) vs) : ∃ v r, vs = v :: r ∧ RD K H N d v ∧ RDs K H N ds r := by simpa only [RDs] using h
theorem RDs.length : ∀ {ds : List D} {vs : List V}, RDs K H N ds vs → ds.length = vs.length
  | [], _, h => by rw [h.of_nil]; rfl
  | d :: ds, _, h => by
    obtain ⟨v, r, rfl, _, h2⟩ := h.of_cons
    rw [List.length_cons, List.length_cons, RDs.length h2]
theorem RDs.get : ∀ {ds : List D} {vs : List V} {i : Nat} {d : D}, RDs K H N ds vs → ds[i]? = some d → ∃ v, vs[i]? = some v ∧ RD K H N d v
  | [], _, _, _, _, e => by simp at e
  | d :: ds, _, 0, _, h, e => by
    obtain ⟨v, r, rfl, h1, _⟩ := h.of_cons
    simp at e; subst e
    exact ⟨v, rfl, h1⟩
  | d :: ds, _, i + 1, x, h, e => by
    obtain ⟨v, r, rfl, _, h2⟩ := h.of_cons
    obtain ⟨u, h3, h4⟩ := RDs.get (i := i) (d := x) h2 (by simpa using e)
    exact ⟨u, by simpa using h3, h4⟩
theorem RDs.append : ∀ {ds es : List D} {vs us : List V}, RDs K H N ds vs → RDs K H N es us → RDs K H N (ds ++ es) (vs ++ us)
  | [], _, _, _, h, t => by rw [h.of_nil]; exact t
  | d :: ds, _, _, _, h, t => by
    obtain ⟨v, r, rfl, h1, h2⟩ := h.of_cons
    exact RDs.cons h1 (RDs.append h2 t)
theorem RDs.take : ∀ {ds : List D} {vs : List V} (n : Nat), RDs K H N ds vs → RDs K H N (ds.take n) (vs.take n)
  | _, _, 0, _ => by simpa using RDs.nil
  | [], _, n + 1, h => by rw [h.of_nil]; exact RDs.nil
  | d :: ds, _, n + 1, h => by
    obtain ⟨v, r, rfl, h1, h2⟩ := h.of_cons
    exact RDs.cons h1 (RDs.take n h2)
theorem RDs.drop : ∀ {ds : List D} {vs : List V} (n : Nat), RDs K H N ds vs → RDs K H N (ds.drop n) (vs.drop n)
  | _, _, 0, h => h
  | [], _, n + 1, h => by rw [h.of_nil]; exact RDs.nil
  | d :: ds, _, n + 1, h => by
    obtain ⟨v, r, rfl, h1, h2⟩ := h.of_cons
    exact RDs.drop n h2
theorem RDs.reverse : ∀ {ds : List D} {vs : List V}, RDs K H N ds vs → RDs K H N ds.reverse vs.reverse
  | [], _, h => by rw [h.of_nil]; exact RDs.nil
  | d :: ds, _, h => by
    obtain ⟨v, r, rfl, h1, h2⟩ := h.of_cons
    rw [List.reverse_cons, List.reverse_cons]
    exact RDs.append (RDs.reverse h2) (RDs.cons h1 RDs.nil)
theorem RDs.set {d : D} {v : V} (h1 : RD K H N d v) : ∀ {ds : List D} {vs : List V} (i : Nat), RDs K H N ds vs → RDs K H N (ds.set i d) (vs.set i v)
  | [], _, _, h => by rw [h.of_nil]; exact RDs.nil
  | d' :: ds, _, 0, h => by
    obtain ⟨v, r, rfl, _, h2⟩ := h.of_cons
    exact RDs.cons h1 h2
  | d' :: ds, _, i + 1, h => by
    obtain ⟨v, r, rfl, h3, h2⟩ := h.of_cons
    exact RDs.cons h3 (RDs.set h1 i h2)
theorem RDs.dropLast {ds : List D} {vs : List V} (h : RDs K H N ds vs) : RDs K H N ds.dropLast vs.dropLast := by
  rw [List.dropLast_eq_take, List.dropLast_eq_take, h.length]; exact RDs.take _ h
theorem RDs.of_ints : ∀ {ns : List Int} {vs : List V}, RDs K H N (ns.map D.int) vs → vs = ns.map V.int
  | [], _, h => h.of_nil
  | n :: ns, _, h => by
    obtain ⟨v, r, rfl, h1, h2⟩ := RDs.of_cons h
    rw [h1.of_int, RDs.of_ints h2]; rfl
theorem RDs.of_strs : ∀ {ns : List Str} {vs : List V}, RDs K H N (ns.map D.str) vs → vs = ns.map V.str
  | [], _, h => h.of_nil
  | n :: ns, _, h => by
    obtain ⟨v, r, rfl, h1, h2⟩ := RDs.of_cons h
    rw [h1.of_str, RDs.of_strs h2]; rfl
theorem RDs.of_bls : ∀ {ns : List Bool} {vs : List V}, RDs K H N (ns.map D.bl) vs → vs = ns.map V.bl
  | [], _, h => h.of_nil
  | n :: ns, _, h => by
    obtain ⟨v, r, rfl, h1, h2⟩ := RDs.of_cons h
    rw [h1.of_bl, RDs.of_bls h2]; rfl
theorem RDs.strs : ∀ (ns : List Str), RDs K H N (ns.map D.str) (ns.map V.str)
  | [] => RDs.nil
  | n :: ns => RDs.cons (RD.str n) (RDs.strs ns)
end

theorem RD.nt_tup {K : PySem.W.Frag} {H : Hp} {N : Ns} {zs : List Str} {v : V} (h : RD K H N (.nt zs) v) : RD K H N (.tup (zs.map .str)) v := by
  obtain ⟨p, rfl, s⟩ := h.of_nt
  exact RD.tup s.sq (RDs.strs zs)
/-! ### what stands at addresses -/
def RKV {κ : Type} (K : PySem.W.Frag) (H : Hp) (N : Ns) : List (κ × D) → List (κ × V) → Prop := Paired fun p q => p.1 = q.1 ∧ RD K H N p.2 q.2
theorem RKV.le {κ : Type} {K : PySem.W.Frag} {H H' : Hp} {N N' : Ns} (l : Kp H N H' N') {a : List (κ × D)} {b : List (κ × V)} (h : RKV K H N a b) : RKV K H' N' a b := Paired.mapP h fun _ _ z => ⟨z.1, z.2.le l⟩
/-- a dict by its entries: hash, key, value -/
def DxIs (h : Heap) (a : Addr) (kvs : List (Int × V × V)) : Prop := kvs.length ≤ sizeLine ∧ (a == sysModules) = false ∧ ∃ o es ep, h.get? a = some o ∧ o.ExactDict ∧ o.data = .dict es ep ∧ ep = kvs.length ∧ Paired (fun (p : Int × V × V) (e : DictEntry) => e.hash = p.1 ∧ RelV p.2.1 e.key ∧ RelV p.2.2 e.val) kvs es.toList
def DxO (a : Addr) (kvs : List (Int × V × V)) : HO := .ext fun h => DxIs h a kvs
def RXV (K : PySem.W.Frag) (H : Hp) (N : Ns) (hs : D → Int) : List (D × D) → List (Int × V × V) → Prop := Paired fun p q => q.1 = hs p.1 ∧ RD K H N p.1 q.2.1 ∧ RD K H N p.2 q.2.2
theorem RXV.le {K : PySem.W.Frag} {H H' : Hp} {N N' : Ns} {hs : D → Int} (l : Kp H N H' N') {a : List (D × D)} {b : List (Int × V × V)} (h : RXV K H N hs a b) : RXV K H' N' hs a b := Paired.mapP h fun _ _ z => ⟨z.1, z.2.1.le l, z.2.2.le l⟩
/-- the dict of an exception's own fields -/
def XdOf (K : PySem.W.Frag) (H : Hp) (N : Ns) : Option Addr → List (Str × D) → Prop
  | none, fs => fs = []
  | some p, fs => fs ≠ [] ∧ ∃ fs', H p = some (.xd fs') ∧ RKV K H N fs fs'
theorem XdOf.le {K : PySem.W.Frag} {H H' : Hp} {N N' : Ns} (l : Kp H N H' N') {d : Option Addr} {fs : List (Str × D)} (h : XdOf K H N d fs) : XdOf K H' N' d fs := by
  cases d with
  | none => exact h
  | some p => obtain ⟨ne, fs', e, r⟩ := h; exact ⟨ne, fs', l.kle.kxd p fs' e, r.le l⟩
theorem dxO_ne {a : Addr} {kvs : List (Int × V × V)} {q : Str} : DxO a kvs ≠ LamX.CodeO a q := by
  intro e
  unfold DxO LamX.CodeO at e
  injection e with e
  have c := congrFun e { objs := Array.replicate (a + 1) { cls := .none, data := .fields #[.none, .str q 0] } }
  have g : Heap.get? { objs := Array.replicate (a + 1) { cls := .none, data := .fields #[.none, .str q 0] } } a = some { cls := .none, data := .fields #[.none, .str q 0] } := by
    unfold Heap.get?
    simp
  have h : DxIs { objs := Array.replicate (a + 1) { cls := .none, data := .fields #[.none, .str q 0] } } a kvs := c.mpr ⟨_, _, 0, g, rfl, rfl⟩
  obtain ⟨_, _, o, es, ep, ho, _, hd, _⟩ := h
  rw [g] at ho
  cases ho
  cases hd
theorem chg_dx {a : Addr} {kvs : List (Int × V × V)} : Chg a (DxO a kvs) := ⟨rfl, fun _ => dxO_ne⟩
theorem chg_tbl {a : Addr} {ps : Array Value} : Chg a (.tbl ps) := ⟨rfl, fun q e => by unfold LamX.CodeO at e; cases e⟩
/-- an exception at rest -/
def ExK (cls : Value) (d : Option Addr) (a : Addr) : HO := .ext fun h => ∃ (oe : Obj) (vs : Array Value), h.get? a = some oe ∧ oe.cls = cls ∧ oe.dict = d ∧ oe.data = .fields vs
def RO (K : PySem.W.Frag) (H : Hp) (N : Ns) (a : Addr) : GO → Prop
  | .lst ds => ∃ vs, H a = some (.lst vs) ∧ RDs K H N ds vs
  | .dK kvs => ∃ kvs', H a = some (.dK kvs') ∧ RKV K H N kvs kvs'
  | .dT kvs => ∃ kvs', H a = some (.dT kvs') ∧ RKV K H N kvs kvs'
  | .ins C dx fs => ∃ fs', H a = some (.ins C dx fs') ∧ RKV K H N fs fs'
  | .dX ok hs kvs => ∃ kvs', H a = some (DxO a kvs') ∧ RXV K H N hs kvs kvs' ∧ ok kvs
  | .ex cls fs => ∃ d, H a = some (ExK cls d a) ∧ XdOf K H N d fs
  | .tab q => LamX.TabS H a q
def RelG (K : PySem.W.Frag) (H : Hp) (N : Ns) (G : Gp) : Prop := ∀ a o, G a = some o → N a ∧ RO K H N a o
theorem RO.here {K : PySem.W.Frag} {H : Hp} {N : Ns} {a : Addr} {o : GO} (h : RO K H N a o) : ∃ u, H a = some u ∧ mutX u = true := by
  cases o with
  | lst ds => obtain ⟨_, h, _⟩ := h; exact ⟨_, h, rfl⟩
  | dK ds => obtain ⟨_, h, _⟩ := h; exact ⟨_, h, rfl⟩
  | dT ds => obtain ⟨_, h, _⟩ := h; exact ⟨_, h, rfl⟩
  | ins C dx ds => obtain ⟨_, h, _⟩ := h; exact ⟨_, h, rfl⟩
  | dX ok hs kvs => obtain ⟨_, h, _⟩ := h; exact ⟨_, h, rfl⟩
  | ex cls fs => obtain ⟨_, h, _⟩ := h; exact ⟨_, h, rfl⟩
  | tab q => obtain ⟨_, h, _⟩ := h; exact ⟨_, h, rfl⟩
theorem RO.le {K : PySem.W.Frag} {H H' : Hp} {N N' : Ns} {a : Addr} {o : GO} (l : Kp H N H' N') (e : H' a = H a) (h : RO K H N a o) : RO K H' N' a o := by
  cases o with
  | lst ds => obtain ⟨vs, h, r⟩ := h; exact ⟨vs, e.trans h, r.le l⟩
  | dK ds => obtain ⟨vs, h, r⟩ := h; exact ⟨vs, e.trans h, r.le l⟩
  | dT ds => obtain ⟨vs, h, r⟩ := h; exact ⟨vs, e.trans h, r.le l⟩
  | ins C dx ds => obtain ⟨vs, h, r⟩ := h; exact ⟨vs, e.trans h, r.le l⟩
  | dX ok hs kvs => obtain ⟨vs, h, r, z⟩ := h; exact ⟨vs, e.trans h, r.le l, z⟩
  | ex cls fs => obtain ⟨d, h, r⟩ := h; exact ⟨d, e.trans h, r.le l⟩
  | tab q =>
    obtain ⟨ps, h, t, r⟩ := h
    exact ⟨ps, e.trans h, t, fun pos cv hc => by obtain ⟨c, e1, e2⟩ := r pos cv hc; exact ⟨c, e1, l.kle.kco c q e2⟩⟩
theorem RelG.free {K : PySem.W.Frag} {H : Hp} {N : Ns} {G : Gp} (r : RelG K H N G) {p : Addr} (h : H p = none) : G p = none := by
  cases e : G p with
  | none => rfl
  | some o =>
    obtain ⟨u, h', _⟩ := (r p o e).2.here
    rw [h] at h'; cases h'
/-- a step -/
structure Stp (K : PySem.W.Frag) (H : Hp) (N : Ns) (G : Gp) (H' : Hp) (N' : Ns) (G' : Gp) : Prop where
  kp : Kp H N H' N'
  fr : ∀ p u, H p = some u → G p = none → H' p = some u ∧ G' p = none ∧ (N p → N' p)
  rel : RelG K H' N' G'
theorem Stp.refl {K : PySem.W.Frag} {H : Hp} {N : Ns} {G : Gp} (r : RelG K H N G) : Stp K H N G H N G := ⟨Kp.refl H N, fun _ _ h n => ⟨h, n, id⟩, r⟩
theorem Stp.trans {K : PySem.W.Frag} {H H1 H2 : Hp} {N N1 N2 : Ns} {G G1 G2 : Gp} (a : Stp K H N G H1 N1 G1) (b : Stp K H1 N1 G1 H2 N2 G2) : Stp K H N G H2 N2 G2 :=
  ⟨a.kp.trans b.kp, fun p u h n => by
    obtain ⟨h1, n1, m1⟩ := a.fr p u h n
    obtain ⟨h2, n2, m2⟩ := b.fr p u h1 n1
    exact ⟨h2, n2, fun z => m2 (m1 z)⟩, b.rel⟩
def Sub (G G' : Gp) : Prop := ∀ a o, G a = some o → G' a = some o
theorem Sub.refl (G : Gp) : Sub G G := fun _ _ h => h
theorem Sub.trans {G G1 G2 : Gp} (a : Sub G G1) (b : Sub G1 G2) : Sub G G2 := fun p o h => b p o (a p o h)
theorem Sub.new {G : Gp} {p : Addr} {o : GO} (h : G p = none) : Sub G (gup G p o) := fun a u e => by rw [gup_ne (gne e h)]; exact e
theorem Sub.news {G G' : Gp} {p : Addr} {o : GO} (s : Sub G G') (h : G' p = none) : Sub G (gup G' p o) := s.trans (Sub.new h)
theorem Sub.nn {G G' : Gp} (s : Sub G G') {p : Addr} (h : G' p = none) : G p = none := by
  cases e : G p with
  | none => rfl
  | some o => rw [s p o e] at h; cases h
theorem RelG.sub {K : PySem.W.Frag} {H : Hp} {N : Ns} {G G' : Gp} (r : RelG K H N G') (s : Sub G G') : Stp K H N G' H N G := ⟨Kp.refl H N, fun p u h n => ⟨h, s.nn n, id⟩, fun a o e => r a o (s a o e)⟩
theorem Kp.new {H : Hp} {N : Ns} {p : Addr} {u : HO} (h : H p = none) : Kp H N (upd H p u) (nadd N p) :=
  ⟨KLe.fresh h, fun q x e n => ⟨by rw [upd_ne (ne_of_none e h)]; exact e, fun z => z.elim (ne_of_none e h) n⟩⟩
theorem Kp.new0 {H : Hp} {N : Ns} {p : Addr} {u : HO} (h : H p = none) : Kp H N (upd H p u) N :=
  ⟨KLe.fresh h, fun q x e n => ⟨by rw [upd_ne (ne_of_none e h)]; exact e, n⟩⟩
theorem Kp.newV {H : Hp} {N : Ns} {p : Addr} {u : HO} (h : H p = none) : Kp H N (upd H p u) (ndel N p) :=
  ⟨KLe.fresh h, fun q x e n => ⟨by rw [upd_ne (ne_of_none e h)]; exact e, fun z => n z.2⟩⟩
/-- a new object that is known -/
theorem Stp.new {K : PySem.W.Frag} {H : Hp} {N : Ns} {G : Gp} {p : Addr} {u : HO} {o : GO} (r : RelG K H N G) (h : H p = none) (ho : RO K (upd H p u) (nadd N p) p o) : Stp K H N G (upd H p u) (nadd N p) (gup G p o) := by
  refine ⟨Kp.new h, fun q x e n => ⟨by rw [upd_ne (ne_of_none e h)]; exact e, by rw [gup_ne (ne_of_none e h)]; exact n, .inr⟩, fun a o' e => ?_⟩
  by_cases z : a = p
  · subst z; rw [gup_same] at e; cases e; exact ⟨.inl rfl, ho⟩
  · rw [gup_ne z] at e
    exact ⟨.inr (r a o' e).1, (r a o' e).2.le (Kp.new h) (upd_ne z)⟩
/-- a new object that is not known -/
theorem Stp.new0 {K : PySem.W.Frag} {H : Hp} {N : Ns} {G : Gp} {p : Addr} {u : HO} (r : RelG K H N G) (h : H p = none) : Stp K H N G (upd H p u) N G := by
  refine ⟨Kp.new0 h, fun q x e n => ⟨by rw [upd_ne (ne_of_none e h)]; exact e, n, id⟩, fun a o' e => ?_⟩
  obtain ⟨x, hx, _⟩ := (r a o' e).2.here
  exact ⟨(r a o' e).1, (r a o' e).2.le (Kp.new0 h) (upd_ne (ne_of_none hx h))⟩
/-- a new object that nobody changes -/
theorem Stp.newV {K : PySem.W.Frag} {H : Hp} {N : Ns} {G : Gp} {p : Addr} {u : HO} (r : RelG K H N G) (h : H p = none) : Stp K H N G (upd H p u) (ndel N p) G := by
  refine ⟨Kp.newV h, fun q x e n => ⟨by rw [upd_ne (ne_of_none e h)]; exact e, n, fun z => ⟨ne_of_none e h, z⟩⟩, fun a o' e => ?_⟩
  obtain ⟨x, hx, _⟩ := (r a o' e).2.here
  exact ⟨⟨ne_of_none hx h, (r a o' e).1⟩, (r a o' e).2.le (Kp.newV h) (upd_ne (ne_of_none hx h))⟩
theorem Kp.writeC {H : Hp} {N : Ns} {p : Addr} {u u0 : HO} (hN : N p) (h : H p = some u0) (m : Chg p u0) (k : knd u = knd u0) : Kp H N (upd H p u) N :=
  ⟨KLe.writeC h m k, fun q x e n => ⟨by rw [upd_ne (fun z => n (by rw [z]; exact hN))]; exact e, n⟩⟩
/-- a known object is changed -/
theorem Stp.writeC {K : PySem.W.Frag} {H : Hp} {N : Ns} {G : Gp} {p : Addr} {u : HO} {o o0 : GO} {u0 : HO} (r : RelG K H N G) (hG : G p = some o0) (h : H p = some u0) (m : Chg p u0) (k : knd u = knd u0) (ho : RO K (upd H p u) N p o) :
    Stp K H N G (upd H p u) N (gup G p o) := by
  have hN := (r p o0 hG).1
  refine ⟨Kp.writeC hN h m k, fun q x e n => ?_, fun a o' e => ?_⟩
  · have ne : q ≠ p := fun z => by subst z; rw [hG] at n; cases n
    exact ⟨by rw [upd_ne ne]; exact e, by rw [gup_ne ne]; exact n, id⟩
  · by_cases z : a = p
    · subst z; rw [gup_same] at e; cases e; exact ⟨hN, ho⟩
    · rw [gup_ne z] at e
      exact ⟨(r a o' e).1, (r a o' e).2.le (Kp.writeC hN h m k) (upd_ne z)⟩
/-- a young object that is not known is changed -/
theorem Stp.pokeC {K : PySem.W.Frag} {H0 H : Hp} {N0 N : Ns} {G0 G : Gp} {p : Addr} {u u0 : HO} (s : Stp K H0 N0 G0 H N G) (h0 : H0 p = none) (h : H p = some u0) (n : G p = none) (hN : N p) (m : Chg p u0) (k : knd u = knd u0) :
    Stp K H0 N0 G0 (upd H p u) N G := by
  have kw := Kp.writeC hN h m k
  refine ⟨s.kp.trans kw, fun q x e nq => ?_, fun a o' e => ?_⟩
  · obtain ⟨h1, n1, m1⟩ := s.fr q x e nq
    exact ⟨by rw [upd_ne (ne_of_none e h0)]; exact h1, n1, m1⟩
  · have ne : a ≠ p := fun z => by subst z; rw [n] at e; cases e
    exact ⟨(s.rel a o' e).1, (s.rel a o' e).2.le kw (upd_ne ne)⟩
theorem Kp.write {H : Hp} {N : Ns} {p : Addr} {u u0 : HO} (hN : N p) (h : H p = some u0) (m : mutH u0 = true) (k : knd u = knd u0) : Kp H N (upd H p u) N := Kp.writeC hN h (.of m) k
theorem Stp.write {K : PySem.W.Frag} {H : Hp} {N : Ns} {G : Gp} {p : Addr} {u : HO} {o o0 : GO} {u0 : HO} (r : RelG K H N G) (hG : G p = some o0) (h : H p = some u0) (m : mutH u0 = true) (k : knd u = knd u0) (ho : RO K (upd H p u) N p o) :
    Stp K H N G (upd H p u) N (gup G p o) := Stp.writeC r hG h (.of m) k ho
theorem Stp.poke {K : PySem.W.Frag} {H0 H : Hp} {N0 N : Ns} {G0 G : Gp} {p : Addr} {u u0 : HO} (s : Stp K H0 N0 G0 H N G) (h0 : H0 p = none) (h : H p = some u0) (n : G p = none) (hN : N p) (m : mutH u0 = true) (k : knd u = knd u0) :
    Stp K H0 N0 G0 (upd H p u) N G := Stp.pokeC s h0 h n hN (.of m) k
/-- a young object gets known -/
theorem Stp.know {K : PySem.W.Frag} {H0 H : Hp} {N0 N : Ns} {G0 G : Gp} {p : Addr} {o : GO} (s : Stp K H0 N0 G0 H N G) (h0 : H0 p = none) (hN : N p) (ho : RO K H N p o) : Stp K H0 N0 G0 H N (gup G p o) := by
  refine ⟨s.kp, fun q x e nq => ?_, fun a o' e => ?_⟩
  · obtain ⟨h1, n1, m1⟩ := s.fr q x e nq
    exact ⟨h1, by rw [gup_ne (ne_of_none e h0)]; exact n1, m1⟩
  · by_cases z : a = p
    · subst z; rw [gup_same] at e; cases e; exact ⟨hN, ho⟩
    · rw [gup_ne z] at e
      exact s.rel a o' e
/-- an object that G doesn't know is from now on never changed: it was young, or G knew it -/
theorem Kp.calm {H : Hp} {N : Ns} {p : Addr} : Kp H N H (ndel N p) := ⟨KLe.refl H, fun q x e n => ⟨e, fun z => n z.2⟩⟩
theorem Stp.calm {K : PySem.W.Frag} {H0 H : Hp} {N0 N : Ns} {G0 G : Gp} {p : Addr} (s : Stp K H0 N0 G0 H N G) (h0 : H0 p = none ∨ G0 p ≠ none) (n : G p = none) : Stp K H0 N0 G0 H (ndel N p) G := by
  refine ⟨s.kp.trans Kp.calm, fun q x e nq => ?_, fun a o' e => ?_⟩
  · obtain ⟨h1, n1, m1⟩ := s.fr q x e nq
    refine ⟨h1, n1, fun z => ⟨fun w => ?_, m1 z⟩⟩
    subst w
    rcases h0 with h0 | h0
    · rw [h0] at e; cases e
    · exact h0 nq
  · have ne : a ≠ p := fun z => by subst z; rw [n] at e; cases e
    exact ⟨⟨ne, (s.rel a o' e).1⟩, (s.rel a o' e).2.le Kp.calm rfl⟩

/-! ### slots -/
abbrev Sd := List (Option D)
def RSt (K : PySem.W.Frag) (H : Hp) (N : Ns) (σ : Sd) (τ : L2.St) : Prop := σ.length = τ.length ∧ ∀ (i : Nat) (d : D), σ[i]? = some (some d) → ∃ v, τ[i]? = some (some v) ∧ RD K H N d v
theorem RSt.le {K : PySem.W.Frag} {H H' : Hp} {N N' : Ns} {σ : Sd} {τ : L2.St} (l : Kp H N H' N') (h : RSt K H N σ τ) : RSt K H' N' σ τ := ⟨h.1, fun i d e => by obtain ⟨v, h1, h2⟩ := h.2 i d e; exact ⟨v, h1, h2.le l⟩⟩
theorem RSt.set {K : PySem.W.Frag} {H : Hp} {N : Ns} {σ : Sd} {τ : L2.St} {d : D} {v : V} (h : RSt K H N σ τ) (r : RD K H N d v) (i : Nat) : RSt K H N (σ.set i (some d)) (τ.set i (some v)) := by
  refine ⟨by rw [List.length_set, List.length_set]; exact h.1, fun j x e => ?_⟩
  by_cases hj : i = j
  · subst hj
    rw [List.getElem?_set] at e ⊢
    simp only [if_true] at e ⊢
    rw [h.1] at e
    split at e
    · rename_i hlt
      cases e
      rw [if_pos hlt]
      exact ⟨v, rfl, r⟩
    · cases e
  · rw [List.getElem?_set_ne hj] at e ⊢
    exact h.2 j x e

/-! ### transformers by data -/
abbrev DK := D → Gp → Prop
abbrev DE := Sd → Gp → DK → Prop
abbrev DT := Sd → Gp → (Bool → Gp → Prop) → Prop
abbrev DA := Sd → Gp → (List D → Gp → Prop) → Prop
structure DEnds where
  nx : Sd → Gp → Prop
  rt : DK
  bk : Sd → Gp → Prop := fun _ _ => False
  ct : Sd → Gp → Prop := fun _ _ => False
abbrev DS := DEnds → Sd → Gp → Prop
abbrev DG := D → Sd → Gp → (Sd → Gp → Prop) → Prop
abbrev DR2 := D → D → Gp → DK → Prop
abbrev DR1 := D → Gp → DK → Prop
abbrev DRn := List D → Gp → DK → Prop
/-- a continuation by values holds where the one by data does -/
def UpQ (K : PySem.W.Frag) (H : Hp) (N : Ns) (G : Gp) (R : DK) (Q : VK) : Prop := ∀ d G' N' v H', R d G' → Stp K H N G H' N' G' → RD K H' N' d v → Q v H'
def up (K : PySem.W.Frag) (t : DE) : TE := fun τ H Q => ∃ σ G N R, RSt K H N σ τ ∧ RelG K H N G ∧ t σ G R ∧ UpQ K H N G R Q
def upT (K : PySem.W.Frag) (t : DT) : TT := fun τ H Q => ∃ σ G N R, RSt K H N σ τ ∧ RelG K H N G ∧ t σ G R ∧ ∀ b G' N' H', R b G' → Stp K H N G H' N' G' → Q b H'
def upA (K : PySem.W.Frag) (t : DA) : TA := fun τ H Q => ∃ σ G N R, RSt K H N σ τ ∧ RelG K H N G ∧ t σ G R ∧ ∀ ds G' N' vs H', R ds G' → Stp K H N G H' N' G' → RDs K H' N' ds vs → Q vs H'
structure UpE (K : PySem.W.Frag) (H : Hp) (N : Ns) (G : Gp) (E : DEnds) (D : Ends) : Prop where
  nx : ∀ σ' G' N' τ' H', E.nx σ' G' → Stp K H N G H' N' G' → RSt K H' N' σ' τ' → D.nx τ' H'
  rt : UpQ K H N G E.rt D.rt
  bk : ∀ σ' G' N' τ' H', E.bk σ' G' → Stp K H N G H' N' G' → RSt K H' N' σ' τ' → D.bk τ' H'
  ct : ∀ σ' G' N' τ' H', E.ct σ' G' → Stp K H N G H' N' G' → RSt K H' N' σ' τ' → D.ct τ' H'
def upS (K : PySem.W.Frag) (t : DS) : TS := fun D τ H => ∃ σ G N E, RSt K H N σ τ ∧ RelG K H N G ∧ t E σ G ∧ UpE K H N G E D
def upG (K : PySem.W.Frag) (g : DG) : TG := fun v τ H Q => ∃ d σ G N R, RD K H N d v ∧ RSt K H N σ τ ∧ RelG K H N G ∧ g d σ G R ∧ ∀ σ' G' N' τ' H', R σ' G' → Stp K H N G H' N' G' → RSt K H' N' σ' τ' → Q τ' H'
def upR2 (K : PySem.W.Frag) (r : DR2) : R2 := fun x y H Q => ∃ c d G N R, RD K H N c x ∧ RD K H N d y ∧ RelG K H N G ∧ r c d G R ∧ UpQ K H N G R Q
def upR1 (K : PySem.W.Frag) (r : DR1) : V → Hp → VK → Prop := fun x H Q => ∃ c G N R, RD K H N c x ∧ RelG K H N G ∧ r c G R ∧ UpQ K H N G R Q
def upRn (K : PySem.W.Frag) (r : DRn) : List V → Hp → VK → Prop := fun xs H Q => ∃ cs G N R, RDs K H N cs xs ∧ RelG K H N G ∧ r cs G R ∧ UpQ K H N G R Q
def upM (K : PySem.W.Frag) (r : D → List D → Gp → DK → Prop) : V → List V → Hp → VK → Prop := fun x xs H Q => ∃ c cs G N R, RD K H N c x ∧ RDs K H N cs xs ∧ RelG K H N G ∧ r c cs G R ∧ UpQ K H N G R Q
theorem UpQ.le {K : PySem.W.Frag} {H H1 : Hp} {N N1 : Ns} {G G1 : Gp} {R : DK} {Q : VK} (q : UpQ K H N G R Q) (s : Stp K H N G H1 N1 G1) : UpQ K H1 N1 G1 R Q := fun d G' N' v H' r s' rd => q d G' N' v H' r (s.trans s') rd
theorem UpQ.at {K : PySem.W.Frag} {H : Hp} {N : Ns} {G : Gp} {R : DK} {Q : VK} (q : UpQ K H N G R Q) (r : RelG K H N G) {d : D} {v : V} (h : R d G) (rd : RD K H N d v) : Q v H := q d G N v H h (Stp.refl r) rd

def QE (X : Cx) (e : Expr) (t : DE) : Prop := PE X e (up X.K t)
def QT (X : Cx) (e : Expr) (t : DT) : Prop := PT X e (upT X.K t)
def QW (X : Cx) (e : Expr) (t : DT) : Prop := PW X e (upT X.K t)
def QA (X : Cx) (es : List Expr) (t : DA) : Prop := PA X es (upA X.K t)
def QS (X : Cx) (st : Stmt) (t : DS) : Prop := PS X st (upS X.K t)
def QSs (X : Cx) (st : List Stmt) (t : DS) : Prop := PSs X st (upS X.K t)
def QG (X : Cx) (tg : Expr) (g : DG) : Prop := PG X tg (upG X.K g)
def OpD (X : Cx) (f : Value → Value → Sem Value) (r : DR2) : Prop := OpR X f (upR2 X.K r)
def UnD (X : Cx) (f : Value → Sem Value) (r : DR1) : Prop := UnR X f (upR1 X.K r)
def CallD (X : Cx) (f : Value) (r : DRn) : Prop := CallR X f (upRn X.K r)
def IxD (X : Cx) (r : DR2) : Prop := IxR X (upR2 X.K r)

theorem pe_mono {X : Cx} {e : Expr} {t t' : TE} (h : PE X e t) (i : ∀ τ H Q, t' τ H Q → t τ H Q) : PE X e t' := ⟨fun pins s σ H Q I q => h.run pins s σ H Q I (i σ H Q q)⟩
theorem pt_mono {X : Cx} {e : Expr} {t t' : TT} (h : PT X e t) (i : ∀ τ H Q, t' τ H Q → t τ H Q) : PT X e t' := ⟨fun pins s σ H Q I q => h.run pins s σ H Q I (i σ H Q q)⟩
theorem pw_mono {X : Cx} {e : Expr} {t t' : TT} (h : PW X e t) (i : ∀ τ H Q, t' τ H Q → t τ H Q) : PW X e t' := ⟨fun wh pins s σ H Q I q => h.run wh pins s σ H Q I (i σ H Q q)⟩
theorem pa_mono {X : Cx} {e : List Expr} {t t' : TA} (h : PA X e t) (i : ∀ τ H Q, t' τ H Q → t τ H Q) : PA X e t' := ⟨fun pos pins s σ H Q I q => h.run pos pins s σ H Q I (i σ H Q q)⟩
theorem ps_mono {X : Cx} {e : Stmt} {t t' : TS} (h : PS X e t) (i : ∀ D τ H, t' D τ H → t D τ H) : PS X e t' := ⟨fun pins s σ H D I q => h.run pins s σ H D I (i D σ H q)⟩
theorem pss_mono {X : Cx} {e : List Stmt} {t t' : TS} (h : PSs X e t) (i : ∀ D τ H, t' D τ H → t D τ H) : PSs X e t' := ⟨fun pins s σ H D I q => h.run pins s σ H D I (i D σ H q)⟩
theorem pg_mono {X : Cx} {e : Expr} {t t' : TG} (h : PG X e t) (i : ∀ v τ H Q, t' v τ H Q → t v τ H Q) : PG X e t' := ⟨fun pins s σ H v u Q I r q => h.run pins s σ H v u Q I r (i v σ H Q q)⟩
theorem opr_mono {X : Cx} {f : Value → Value → Sem Value} {r r' : R2} (h : OpR X f r) (i : ∀ x y H Q, r' x y H Q → r x y H Q) : OpR X f r' := fun pins s σ H x y v u Q I rx ry q => h pins s σ H x y v u Q I rx ry (i x y H Q q)
theorem unr_mono {X : Cx} {f : Value → Sem Value} {r r' : V → Hp → VK → Prop} (h : UnR X f r) (i : ∀ x H Q, r' x H Q → r x H Q) : UnR X f r' := fun pins s σ H x v Q I rx q => h pins s σ H x v Q I rx (i x H Q q)
theorem callr_mono {X : Cx} {f : Value} {r r' : List V → Hp → VK → Prop} (h : CallR X f r) (i : ∀ x H Q, r' x H Q → r x H Q) : CallR X f r' := fun pins s σ H xs us Q I rx q => h pins s σ H xs us Q I rx (i xs H Q q)
theorem ixr_mono {X : Cx} {r r' : R2} (h : IxR X r) (i : ∀ x y H Q, r' x y H Q → r x y H Q) : IxR X r' := fun va sl pins s σ H x y v u Q I rx ry q => h va sl pins s σ H x y v u Q I rx ry (i x y H Q q)

/-! ### names and constants -/
section
variable {X : Cx} {e a b c : Expr} {pos : Pos} {t ta tb tc : DE}
def dVar (i : Nat) : DE := fun σ G R => match σ[i]? with | some (some d) => R d G | _ => False
def dC (d : D) : DE := fun _ G R => R d G
theorem qv (i : Nat) {x : Str} {pos : Pos} (hN : X.N[i]? = some x := by rfl) (hv : Vis X.env.scope x := by first | exact Or.inl rfl | exact Or.inr (Or.inl rfl) | exact Or.inr (Or.inr rfl)) (hd : (x == ("__debug__" : Str)) = false := by decide)
    (hcd : (x == ("__classdict__" : Str)) = false := by decide) : QE X (.Name x pos) (dVar i) := by
  refine pe_mono (pe_var hN hv hd hcd) fun τ H Q h => ?_
  obtain ⟨σ, G, N, R, hs, hg, ht, q⟩ := h
  unfold dVar at ht
  split at ht
  · rename_i d e
    obtain ⟨v, h1, h2⟩ := hs.2 i d e
    exact ⟨v, h1, q.at hg ht h2⟩
  · exact ht.elim
theorem up_c {K : PySem.W.Frag} {d : D} {v : V} (h : ∀ H N, RD K H N d v) {τ : L2.St} {H : Hp} {Q : VK} (u : up K (dC d) τ H Q) : Q v H := by
  obtain ⟨σ, G, N, R, hs, hg, ht, q⟩ := u
  exact q.at hg ht (h H N)
theorem qe_int {i j pos} : QE X (.Constant (.int i) j pos) (dC (.int i)) := pe_mono pe_int fun _ _ _ h => up_c (fun _ _ => RD.int i) h
theorem qe_bl {i j pos} : QE X (.Constant (.bool i) j pos) (dC (.bl i)) := pe_mono pe_bl fun _ _ _ h => up_c (fun _ _ => RD.bl i) h
theorem qe_non {j pos} : QE X (.Constant .none j pos) (dC .non) := pe_mono pe_non fun _ _ _ h => up_c (fun _ _ => RD.non) h
theorem qe_str {i j pos} : QE X (.Constant (.str i) j pos) (dC (.str i)) := pe_mono pe_str fun _ _ _ h => up_c (fun _ _ => RD.str i) h
/-! ### operators -/
def dOp (r : DR2) (ta tb : DE) : DE := fun σ G R => ta σ G fun x G1 => tb σ G1 fun y G2 => r x y G2 R
def dUn (r : DR1) (ta : DE) : DE := fun σ G R => ta σ G fun x G1 => r x G1 R
theorem up_op {K : PySem.W.Frag} {r : DR2} {τ : L2.St} {H : Hp} {Q : VK} (u : up K (dOp r ta tb) τ H Q) : tOp (upR2 K r) (up K ta) (up K tb) τ H Q := by
  obtain ⟨σ, G, N, R, hs, hg, ht, q⟩ := u
  refine ⟨σ, G, N, _, hs, hg, ht, fun x G1 N1 v1 H1 h1 s1 r1 => ?_⟩
  refine ⟨σ, G1, N1, _, hs.le s1.kp, s1.rel, h1, fun y G2 N2 v2 H2 h2 s2 r2 => ?_⟩
  exact ⟨x, y, G2, N2, R, r1.le s2.kp, r2, s2.rel, h2, q.le (s1.trans s2)⟩
theorem qe_op {op : Operator} {r : DR2} (ho : OpD X (binaryOp op) r) (ha : QE X a ta) (hb : QE X b tb) : QE X (.BinOp a op b pos) (dOp r ta tb) := pe_mono (pe_op ho ha hb) fun _ _ _ h => up_op h
theorem qe_cmp {op : CmpOp} {r : DR2} (ho : OpD X (compareOp op) r) (ha : QE X a ta) (hb : QE X b tb) (hm : behindInMarks op b = false) : QE X (.Compare a [op] [b] pos) (dOp r ta tb) := pe_mono (pe_cmpR ho ha hb hm) fun _ _ _ h => up_op h
theorem qe_ix {r : DR2} (ho : IxD X r) (ha : QE X a ta) (hb : QE X b tb) (hs : PlainIx b) : QE X (.Subscript a b pos) (dOp r ta tb) := pe_mono (pe_ix ho ha hb hs) fun _ _ _ h => up_op h
theorem qe_un {op : UnaryOp} {r : DR1} (ho : UnD X (unaryOp op) r) (ha : QE X a ta) : QE X (.UnaryOp op a pos) (dUn r ta) := by
  refine pe_mono (pe_un ho ha) fun τ H Q h => ?_
  obtain ⟨σ, G, N, R, hs, hg, ht, q⟩ := h
  refine ⟨σ, G, N, _, hs, hg, ht, fun x G1 N1 v1 H1 h1 s1 r1 => ?_⟩
  exact ⟨x, G1, N1, R, r1, s1.rel, h1, q.le s1⟩
/-- a op1 b op2 c -/
def dChain (r r' : DR2) (ta tb tc : DE) : DE := fun σ G R => ta σ G fun x G1 => tb σ G1 fun y G2 => r x y G2 fun z G3 => match z with | .bl true => tc σ G3 fun w G4 => r' y w G4 R | .bl false => R (.bl false) G3 | _ => False
/-! ### tests -/
/-- a value that is a bool, as a test -/
def dB (t : DE) : DT := fun σ G R => t σ G fun x G1 => match x with | .bl b => R b G1 | _ => False
theorem upT_B {K : PySem.W.Frag} {τ : L2.St} {H : Hp} {Q : Bool → Hp → Prop} (u : upT K (dB t) τ H Q) : tB (up K t) τ H Q := by
  obtain ⟨σ, G, N, R, hs, hg, ht, q⟩ := u
  refine ⟨σ, G, N, _, hs, hg, ht, fun x G1 N1 v1 H1 h1 s1 r1 => ?_⟩
  split at h1
  · exact ⟨_, r1.of_bl, q _ _ _ _ h1 s1⟩
  · exact h1.elim
theorem qt_val (h : QE X e t) (he : ∀ whole, isTrue e X.env whole = (do let v ← whole; standAt e.pos; holding [v] (truthy v)) := by intro _; rfl) : QT X e (dB t) := pt_mono (pt_val h he) fun _ _ _ z => upT_B z
theorem qt_cmp {op : CmpOp} {r : DR2} (ho : OpD X (compareOp op) r) (ha : QE X a ta) (hb : QE X b tb) (hm : behindInMarks op b = false) : QT X (.Compare a [op] [b] pos) (dB (dOp r ta tb)) :=
  pt_mono (pt_cmpR ho ha hb hm) fun τ H Q h => by
    obtain ⟨σ, G, N, R, hs, hg, ht, q⟩ := h
    refine up_op ⟨σ, G, N, _, hs, hg, ht, fun x G1 N1 v1 H1 h1 s1 r1 => ?_⟩
    split at h1
    · exact ⟨_, r1.of_bl, q _ _ _ _ h1 s1⟩
    · exact h1.elim
variable {u u' : DT} {rest : List Expr}
def dAnd (t u : DT) : DT := fun σ G R => t σ G fun c G1 => match c with | true => u σ G1 R | false => R false G1
def dOr (t u : DT) : DT := fun σ G R => t σ G fun c G1 => match c with | true => R true G1 | false => u σ G1 R
def dNot (t : DT) : DT := fun σ G R => t σ G fun c G1 => R (!c) G1
theorem QW.pt (h : QW X e u) : QT X e u := PW.pt h
theorem qw_and1 (ha : QT X a u) : QW X (.BoolOp .And [a] pos) u := pw_and1 ha
theorem qw_or1 (ha : QT X a u) : QW X (.BoolOp .Or [a] pos) u := pw_or1 ha
theorem qw_and (ha : QT X a u) (hb : QW X (.BoolOp .And (b :: rest) pos) u') : QW X (.BoolOp .And (a :: b :: rest) pos) (dAnd u u') :=
  pw_mono (pw_and ha hb) fun τ H Q h => by
    obtain ⟨σ, G, N, R, hs, hg, ht, q⟩ := h
    refine ⟨σ, G, N, _, hs, hg, ht, fun c G1 N1 H1 h1 s1 => ?_⟩
    cases c with
    | true => rw [if_pos rfl]; exact ⟨σ, G1, N1, R, hs.le s1.kp, s1.rel, h1, fun b G2 N2 H2 h2 s2 => q b G2 N2 H2 h2 (s1.trans s2)⟩
    | false => rw [if_neg Bool.false_ne_true]; exact q _ _ _ _ h1 s1
theorem qw_or (ha : QT X a u) (hb : QW X (.BoolOp .Or (b :: rest) pos) u') : QW X (.BoolOp .Or (a :: b :: rest) pos) (dOr u u') :=
  pw_mono (pw_or ha hb) fun τ H Q h => by
    obtain ⟨σ, G, N, R, hs, hg, ht, q⟩ := h
    refine ⟨σ, G, N, _, hs, hg, ht, fun c G1 N1 H1 h1 s1 => ?_⟩
    cases c with
    | true => rw [if_pos rfl]; exact q _ _ _ _ h1 s1
    | false => rw [if_neg Bool.false_ne_true]; exact ⟨σ, G1, N1, R, hs.le s1.kp, s1.rel, h1, fun b G2 N2 H2 h2 s2 => q b G2 N2 H2 h2 (s1.trans s2)⟩
theorem qt_not (ha : QT X a u) : QT X (.UnaryOp .Not a pos) (dNot u) :=
  pt_mono (pt_not ha) fun τ H Q h => by
    obtain ⟨σ, G, N, R, hs, hg, ht, q⟩ := h
    exact ⟨σ, G, N, _, hs, hg, ht, fun c G1 N1 H1 h1 s1 => q _ _ _ _ h1 s1⟩
/-- .. as values that are bools -/
def dAndV (ta tb : DE) : DE := fun σ G R => ta σ G fun x G1 => match x with | .bl true => tb σ G1 R | .bl false => R (.bl false) G1 | _ => False
def dOrV (ta tb : DE) : DE := fun σ G R => ta σ G fun x G1 => match x with | .bl true => R (.bl true) G1 | .bl false => tb σ G1 R | _ => False
def dNotV (ta : DE) : DE := fun σ G R => ta σ G fun x G1 => match x with | .bl c => R (.bl (!c)) G1 | _ => False
theorem qe_one {op} (h : QE X a t) : QE X (.BoolOp op [a] pos) t := pe_one h
theorem qe_and (ha : QE X a ta) (hb : QE X (.BoolOp .And (b :: rest) pos) tb) : QE X (.BoolOp .And (a :: b :: rest) pos) (dAndV ta tb) :=
  pe_mono (pe_and ha hb) fun τ H Q h => by
    obtain ⟨σ, G, N, R, hs, hg, ht, q⟩ := h
    refine ⟨σ, G, N, _, hs, hg, ht, fun x G1 N1 v1 H1 h1 s1 r1 => ?_⟩
    split at h1
    · refine ⟨true, r1.of_bl, ?_⟩
      rw [if_pos rfl]
      exact ⟨σ, G1, N1, R, hs.le s1.kp, s1.rel, h1, q.le s1⟩
    · refine ⟨false, r1.of_bl, ?_⟩
      rw [if_neg Bool.false_ne_true]
      exact (q.le s1).at s1.rel h1 (RD.bl _)
    · exact h1.elim
theorem qe_or (ha : QE X a ta) (hb : QE X (.BoolOp .Or (b :: rest) pos) tb) : QE X (.BoolOp .Or (a :: b :: rest) pos) (dOrV ta tb) :=
  pe_mono (pe_or ha hb) fun τ H Q h => by
    obtain ⟨σ, G, N, R, hs, hg, ht, q⟩ := h
    refine ⟨σ, G, N, _, hs, hg, ht, fun x G1 N1 v1 H1 h1 s1 r1 => ?_⟩
    split at h1
    · refine ⟨true, r1.of_bl, ?_⟩
      rw [if_pos rfl]
      exact (q.le s1).at s1.rel h1 (RD.bl _)
    · refine ⟨false, r1.of_bl, ?_⟩
      rw [if_neg Bool.false_ne_true]
      exact ⟨σ, G1, N1, R, hs.le s1.kp, s1.rel, h1, q.le s1⟩
    · exact h1.elim
theorem qe_not (ha : QE X a ta) : QE X (.UnaryOp .Not a pos) (dNotV ta) :=
  pe_mono (pe_not ha) fun τ H Q h => by
    obtain ⟨σ, G, N, R, hs, hg, ht, q⟩ := h
    refine ⟨σ, G, N, _, hs, hg, ht, fun x G1 N1 v1 H1 h1 s1 r1 => ?_⟩
    split at h1
    · exact ⟨_, r1.of_bl, (q.le s1).at s1.rel h1 (RD.bl _)⟩
    · exact h1.elim
def dIf (t : DT) (ta tb : DE) : DE := fun σ G R => t σ G fun c G1 => match c with | true => ta σ G1 R | false => tb σ G1 R
/-! ### argument lists, displays -/
variable {es : List Expr} {tr : DA}
def dNil : DA := fun _ G R => R [] G
def dCons (ta : DE) (tr : DA) : DA := fun σ G R => ta σ G fun x G1 => tr σ G1 fun xs G2 => R (x :: xs) G2
theorem qa_nil : QA X [] dNil := pa_mono pa_nil fun τ H Q h => by
  obtain ⟨σ, G, N, R, hs, hg, ht, q⟩ := h
  exact q [] G N [] H ht (Stp.refl hg) RDs.nil
theorem qa_cons (ha : QE X e t) (hr : QA X es tr) (hs : starEach (e :: es) X.env = (false, eval e X.env) :: starEach es X.env := by rfl) : QA X (e :: es) (dCons t tr) :=
  pa_mono (pa_cons ha hr hs) fun τ H Q h => by
    obtain ⟨σ, G, N, R, hs, hg, ht, q⟩ := h
    refine ⟨σ, G, N, _, hs, hg, ht, fun x G1 N1 v1 H1 h1 s1 r1 => ?_⟩
    refine ⟨σ, G1, N1, _, hs.le s1.kp, s1.rel, h1, fun ds G2 N2 vs H2 h2 s2 r2 => ?_⟩
    exact q _ G2 N2 _ H2 h2 (s1.trans s2) (RDs.cons (r1.le s2.kp) r2)
/-- a new list: known (to be changed), or one that nobody changes -/
def newL (mk : Bool) (ds : List D) (G : Gp) (R : DK) : Prop := match mk with | true => ∀ p, G p = none → R (.ref p) (gup G p (.lst ds)) | false => R (.lst ds) G
theorem newL_ok {K : PySem.W.Frag} {mk : Bool} {H : Hp} {N : Ns} {G : Gp} {ds : List D} {vs : List V} {R : DK} {Q : VK} (r : RelG K H N G) (rd : RDs K H N ds vs) (h : newL mk ds G R) (q : UpQ K H N G R Q) {p : Addr} (np : H p = none) : Q (.ref p) (upd H p (.lst vs)) := by
  cases mk with
  | true =>
    exact q _ _ _ _ _ (h p (r.free np)) (Stp.new (u := .lst vs) (o := .lst ds) r np ⟨vs, upd_same, rd.le (Kp.new np)⟩) (RD.ref p)
  | false =>
    exact q _ _ _ _ _ h (Stp.newV (u := .lst vs) r np) (RD.lst (.inl ⟨upd_same, fun z => z.1 rfl⟩) (rd.le (Kp.newV np)))
theorem newT_ok {K : PySem.W.Frag} {H : Hp} {N : Ns} {G : Gp} {ds : List D} {vs : List V} {R : DK} {Q : VK} (r : RelG K H N G) (rd : RDs K H N ds vs) (h : R (.tup ds) G) (q : UpQ K H N G R Q) {p : Addr} (np : H p = none) : Q (.ref p) (upd H p (.tup vs)) :=
  q _ _ _ _ _ h (Stp.new0 (u := .tup vs) r np) (RD.tup (.inl (.inl upd_same)) (rd.le (Kp.new0 np)))
def dTup (t : DA) : DE := fun σ G R => t σ G fun ds G1 => ds.length ≤ sizeLine ∧ R (.tup ds) G1
def dLst (mk : Bool) (t : DA) : DE := fun σ G R => t σ G fun ds G1 => ds.length ≤ sizeLine ∧ newL mk ds G1 R
theorem qe_tup {x1} (h : QA X es tr) : QE X (.Tuple es x1 pos) (dTup tr) := pe_mono (pe_tup h) fun τ H Q h => by
  obtain ⟨σ, G, N, R, hs, hg, ht, q⟩ := h
  refine ⟨σ, G, N, _, hs, hg, ht, fun ds G1 N1 vs H1 h1 s1 r1 => ⟨by rw [← r1.length]; exact h1.1, fun p np => ?_⟩⟩
  exact newT_ok s1.rel r1 h1.2 (q.le s1) np
theorem qe_lst (mk : Bool) (h : QA X es tr) : QE X (.List es pos) (dLst mk tr) := pe_mono (pe_lst h) fun τ H Q h => by
  obtain ⟨σ, G, N, R, hs, hg, ht, q⟩ := h
  refine ⟨σ, G, N, _, hs, hg, ht, fun ds G1 N1 vs H1 h1 s1 r1 => ⟨by rw [← r1.length]; exact h1.1, fun p np => ?_⟩⟩
  exact newL_ok s1.rel r1 h1.2 (q.le s1) np
/-! ### calls of built-ins -/
def dCallB (r : DRn) (t : DA) : DE := fun σ G R => t σ G fun ds G1 => r ds G1 R
end
end DL

set_option Elab.async false
set_option linter.all false
set_option maxRecDepth 100000
set_option maxHeartbeats 4000000
set_option autoImplicit false
namespace DL
open PySem PySem.Spec PyProof.Rows L2

/-! ### blocks and small statements -/
theorem UpE.le {K : PySem.W.Frag} {H H1 : Hp} {N N1 : Ns} {G G1 : Gp} {E : DEnds} {D : Ends} (u : UpE K H N G E D) (s : Stp K H N G H1 N1 G1) : UpE K H1 N1 G1 E D :=
  ⟨fun σ' G' N' τ' H' h s' => u.nx σ' G' N' τ' H' h (s.trans s'), u.rt.le s, fun σ' G' N' τ' H' h s' => u.bk σ' G' N' τ' H' h (s.trans s'), fun σ' G' N' τ' H' h s' => u.ct σ' G' N' τ' H' h (s.trans s')⟩
section
variable {X : Cx} {st : Stmt} {rest : List Stmt} {t u : DS} {e : Expr} {te : DE} {pos : Pos}
def dNext : DS := fun D σ G => D.nx σ G
def dSeq (t u : DS) : DS := fun D σ G => t { D with nx := u D } σ G
theorem qss_nil : QSs X [] dNext := pss_mono pss_nil fun D τ H h => by
  obtain ⟨σ, G, N, E, hs, hg, ht, q⟩ := h
  exact q.nx _ _ _ _ _ ht (Stp.refl hg) hs
theorem qss_cons (h1 : QS X st t) (h2 : QSs X rest u) : QSs X (st :: rest) (dSeq t u) := pss_mono (pss_cons h1 h2) fun D τ H h => by
  obtain ⟨σ, G, N, E, hs, hg, ht, q⟩ := h
  refine ⟨σ, G, N, _, hs, hg, ht, ⟨fun σ' G' N' τ' H' h s' r => ?_, q.rt, q.bk, q.ct⟩⟩
  exact ⟨σ', G', N', E, r, s'.rel, h, q.le s'⟩
theorem qss_one (h1 : QS X st t) : QSs X [st] t := pss_mono (pss_one h1) fun D τ H h => h
def dBreak : DS := fun D σ G => D.bk σ G
def dCont : DS := fun D σ G => D.ct σ G
theorem qs_break : QS X (.Break pos) dBreak := ps_mono ps_break fun D τ H h => by
  obtain ⟨σ, G, N, E, hs, hg, ht, q⟩ := h
  exact q.bk _ _ _ _ _ ht (Stp.refl hg) hs
theorem qs_continue : QS X (.Continue pos) dCont := ps_mono ps_continue fun D τ H h => by
  obtain ⟨σ, G, N, E, hs, hg, ht, q⟩ := h
  exact q.ct _ _ _ _ _ ht (Stp.refl hg) hs
def dDrop (te : DE) : DS := fun D σ G => te σ G fun _ G1 => D.nx σ G1
theorem qs_expr (he : QE X e te) (hs : swapsWith e none pos.line X.env = pure false := by rfl) : QS X (.Expr e pos) (dDrop te) := ps_mono (ps_expr he hs) fun D τ H h => by
  obtain ⟨σ, G, N, E, hs, hg, ht, q⟩ := h
  exact ⟨σ, G, N, _, hs, hg, ht, fun d G' N' v H' h s' r => q.nx _ _ _ _ _ h s' (hs.le s'.kp)⟩
/-- what may be said instead: fewer known things, a list that is left alone from now on -/
inductive Wk (G : Gp) : D → D → Gp → Prop where
  | same {d : D} {G0 : Gp} : Sub G0 G → Wk G d d G0
  | lst {p : Addr} {ds : List D} {G0 : Gp} : G p = some (.lst ds) → Sub G0 G → G0 p = none → Wk G (.ref p) (.lst ds) G0
theorem UpQ.wk {K : PySem.W.Frag} {H0 H : Hp} {N0 N : Ns} {G0 G G' : Gp} {R : DK} {Q : VK} {d d' : D} {v : V} (q : UpQ K H0 N0 G0 R Q) (s : Stp K H0 N0 G0 H N G) (rd : RD K H N d v) (w : Wk G d d' G') (h : R d' G') (hy : ∀ p, G p ≠ none → H0 p = none ∨ G0 p ≠ none) : Q v H := by
  cases w with
  | same sb => exact q _ _ _ _ _ h (s.trans (s.rel.sub sb)) rd
  | @lst p ds _ e sb n =>
    obtain rfl := rd.of_ref
    obtain ⟨hN, vs, hv, hd⟩ := s.rel p _ e
    have s2 := (s.trans (s.rel.sub sb)).calm (hy p (by rw [e]; simp)) n
    exact q _ _ _ _ _ h s2 (RD.lst (.inl ⟨hv, fun z => z.1 rfl⟩) (hd.le Kp.calm))
theorem Stp.old {K : PySem.W.Frag} {H0 H : Hp} {N0 N : Ns} {G0 G : Gp} (s : Stp K H0 N0 G0 H N G) (p : Addr) (h : G p ≠ none) : H0 p = none ∨ G0 p ≠ none := by
  cases e : H0 p with
  | none => exact .inl rfl
  | some u =>
    refine .inr fun n => h ?_
    exact (s.fr p u e n).2.1
def dRet (te : DE) : DS := fun D σ G => te σ G fun d G1 => ∃ d' G', Wk G1 d d' G' ∧ D.rt d' G'
theorem qs_ret (he : QE X e te) : QS X (.Return (some e) pos) (dRet te) := ps_mono (ps_ret he) fun D τ H h => by
  obtain ⟨σ, G, N, E, hs, hg, ht, q⟩ := h
  refine ⟨σ, G, N, _, hs, hg, ht, fun d G' N' v H' h s' r => ?_⟩
  obtain ⟨d', G2, w, h⟩ := h
  exact q.rt.wk s' r w h s'.old
def dRetN : DS := fun D _ G => ∃ G', Sub G' G ∧ D.rt .non G'
def dIfS (c : DT) (t u : DS) : DS := fun D σ G => c σ G fun b G1 => match b with | true => t D σ G1 | false => u D σ G1
theorem qs_if {c : Expr} {a b : List Stmt} {tc : DT} (hc : QT X c tc) (ha : QSs X a t) (hb : QSs X b u) : QS X (.If c a b pos) (dIfS tc t u) := ps_mono (ps_if hc ha hb) fun D τ H h => by
  obtain ⟨σ, G, N, E, hs, hg, ht, q⟩ := h
  refine ⟨σ, G, N, _, hs, hg, ht, fun b G1 N1 H1 h1 s1 => ?_⟩
  cases b with
  | true => rw [if_pos rfl]; exact ⟨σ, G1, N1, E, hs.le s1.kp, s1.rel, h1, q.le s1⟩
  | false => rw [if_neg Bool.false_ne_true]; exact ⟨σ, G1, N1, E, hs.le s1.kp, s1.rel, h1, q.le s1⟩
end
/-! ### targets -/
section
variable {X : Cx} {e : Expr} {te : DE} {pos : Pos}
def setAll (σ : Sd) : List Nat → List D → Sd
  | i :: is, d :: ds => setAll (σ.set i (some d)) is ds
  | _, _ => σ
def setAllV (σ : L2.St) : List Nat → List V → L2.St
  | i :: is, d :: ds => setAllV (σ.set i (some d)) is ds
  | _, _ => σ
theorem RSt.setAll {K : PySem.W.Frag} {H : Hp} {N : Ns} : ∀ (is : List Nat) {ds : List D} {vs : List V} {σ : Sd} {τ : L2.St}, RSt K H N σ τ → RDs K H N ds vs → RSt K H N (setAll σ is ds) (setAllV τ is vs)
  | [], _, _, _, _, h, _ => h
  | i :: is, [], _, _, _, h, r => by rw [r.of_nil]; exact h
  | i :: is, d :: ds, _, _, _, h, r => by
    obtain ⟨v, rr, rfl, r1, r2⟩ := r.of_cons
    exact RSt.setAll is (h.set r1 i) r2
/-- what a target does: by data, by values; the slots vs alone are changed -/
def TgOk (K : PySem.W.Frag) (vg : TG) (dg : DG) (ws : List Nat) : Prop :=
  ∀ (d : D) (v : V) (σ : Sd) (τ : L2.St) (H : Hp) (N : Ns) (G : Gp) (R : Sd → Gp → Prop) (Q : L2.St → Hp → Prop), RD K H N d v → RSt K H N σ τ → RelG K H N G → dg d σ G R →
    (∀ σ' τ', R σ' G → RSt K H N σ' τ' → wipe τ' ws = wipe τ ws → Q τ' H) → vg v τ H Q
theorem wipe_set {τ : L2.St} {i : Nat} {x : Option V} : ∀ {ws : List Nat}, i ∈ ws → wipe (τ.set i x) ws = wipe τ ws
  | [], h => by cases h
  | w :: ws, h => by
    unfold wipe
    by_cases e : i ∈ ws
    · rw [wipe_set e]
    · have e2 : i = w := by
        rcases List.mem_cons.mp h with h | h
        · exact h
        · exact absurd h e
      subst e2
      have aux : ∀ vs : List Nat, i ∉ vs → wipe (τ.set i x) vs = (wipe τ vs).set i x := by
        intro vs
        induction vs with
        | nil => intro _; rfl
        | cons v vs ih =>
          intro hv
          unfold wipe
          rw [ih (fun z => hv (List.mem_cons_of_mem _ z)), List.set_comm]
          exact fun z => hv (by rw [z]; exact List.mem_cons_self)
      rw [aux ws e, List.set_set]
def dName (i : Nat) : DG := fun d σ G R => R (σ.set i (some d)) G
theorem tg_name {K : PySem.W.Frag} {ws : List Nat} {i : Nat} (h : i ∈ ws) : TgOk K (gName i) (dName i) ws := fun d v σ τ H N G R Q rd rs rg h0 q => q _ _ h0 (rs.set rd i) (wipe_set h)
def gNames : List Nat → TGs
  | [] => gNil
  | i :: is => gCons (gName i) (gNames is)
theorem gNames_ok {Q : L2.St → Hp → Prop} : ∀ {is : List Nat} {vs : List V} {τ : L2.St} {H : Hp}, vs.length = is.length → Q (setAllV τ is vs) H → gNames is vs τ H Q
  | [], [], _, _, _, h => ⟨rfl, h⟩
  | [], _ :: _, _, _, e, _ => by simp at e
  | i :: is, [], _, _, e, _ => by simp at e
  | i :: is, v :: vs, τ, H, e, h => ⟨v, vs, rfl, gNames_ok (by simpa using e) h⟩
theorem wipe_setAll : ∀ {is : List Nat} {vs : List V} {τ : L2.St} {ws : List Nat}, (∀ i ∈ is, i ∈ ws) → wipe (setAllV τ is vs) ws = wipe τ ws
  | [], _, _, _, _ => by simp [setAllV]
  | i :: is, [], _, _, _ => by simp [setAllV]
  | i :: is, v :: vs, τ, ws, h => by
    rw [setAllV, wipe_setAll (fun j hj => h j (List.mem_cons_of_mem _ hj)), wipe_set (h i List.mem_cons_self)]
def dNames (is : List Nat) : DG := fun d σ G R => match d with | .tup ds => ds.length = is.length ∧ R (setAll σ is ds) G | _ => False
theorem tg_names {K : PySem.W.Frag} {ws is : List Nat} {n : Nat} (h : ∀ i ∈ is, i ∈ ws) (hn : is.length = n) : TgOk K (gTup K n (gNames is)) (dNames is) ws := fun d v σ τ H N G R Q rd rs rg h0 q => by
  unfold dNames at h0
  split at h0
  · rename_i ds
    obtain ⟨p, vs, rfl, sq, r⟩ := rd.of_tup
    have hl := r.length
    refine ⟨p, vs, rfl, sq, by omega, gNames_ok (by omega) ?_⟩
    exact q _ _ h0.2 (RSt.setAll is rs r) (wipe_setAll h)
  · exact h0.elim
/-- a target, by data -/
theorem qg_of {tg : Expr} {vg : TG} {dg : DG} {ws : List Nat} (h : PG X tg vg) (t : TgOk X.K vg dg ws) : QG X tg dg := pg_mono h fun v τ H Q h => by
  obtain ⟨d, σ, G, N, R, rd, rs, rg, h0, q⟩ := h
  exact t d v σ τ H N G R Q rd rs rg h0 fun σ' τ' h1 r1 _ => q _ _ _ _ _ h1 (Stp.refl rg) r1
/-- name = value -/
def dAsg (te : DE) (g : DG) : DS := fun D σ G => te σ G fun x G1 => g x σ G1 D.nx
theorem upS_asg {K : PySem.W.Frag} {g : DG} {D : Ends} {τ : L2.St} {H : Hp} (h : upS K (dAsg te g) D τ H) : tAsg (up K te) (upG K g) D τ H := by
  obtain ⟨σ, G, N, E, hs, hg, ht, q⟩ := h
  refine ⟨σ, G, N, _, hs, hg, ht, fun d G' N' v H' h s' r => ?_⟩
  exact ⟨d, σ, G', N', _, r, hs.le s'.kp, s'.rel, h, fun σ2 G2 N2 τ2 H2 h2 s2 r2 => q.nx _ _ _ _ _ h2 (s'.trans s2) r2⟩
theorem qs_set {i : Nat} {x : Str} {pos' : Pos} (hN : X.N.Nodup) (hi : X.N[i]? = some x) (hx : Loc X.env.scope x) (he : QE X e te) (hs : swapsWith e (some (.Name x pos')) pos.line X.env = pure false := by rfl) (hf : X.fn x = true ∨ X.env.scope.names.lookup x = some .local := by first | exact .inl rfl | exact .inr rfl | assumption) :
    QS X (.Assign [.Name x pos'] e pos) (dAsg te (dName i)) := ps_mono (ps_set hN hi hx he hs hf) fun D τ H h => by
  obtain ⟨σ, G, N, E, hs, hg, ht, q⟩ := h
  refine ⟨σ, G, N, _, hs, hg, ht, fun d G' N' v H' h s' r => ?_⟩
  exact q.nx _ _ _ _ _ h s' ((hs.le s'.kp).set r i)
theorem qs_asg {tg : Expr} {g : DG} (he : QE X e te) (hg : QG X tg g) (hs : swapsWithSole [tg] e pos.line X.env = pure false := by rfl) (hw : swappedStores [tg] e X.env = pure none := by rfl)
    (h1 : (assignEach [tg] X.env).map (·.2) = [assign tg X.env] := by rfl) : QS X (.Assign [tg] e pos) (dAsg te g) := ps_mono (ps_asg he hg hs hw h1) fun D τ H h => upS_asg h
/-- o[i] = .. , by data -/
abbrev DSet := D → D → D → Gp → (Gp → Prop) → Prop
def upSet (K : PySem.W.Frag) (r : DSet) : TSet := fun o i v H Q => ∃ c d e G N R, RD K H N c o ∧ RD K H N d i ∧ RD K H N e v ∧ RelG K H N G ∧ r c d e G R ∧ ∀ G' N' H', R G' → Stp K H N G H' N' G' → Q H'
def SetD (X : Cx) (r : DSet) : Prop := PSet X (upSet X.K r)
def dSub (to ti : DE) (r : DSet) : DG := fun v σ G R => to σ G fun o G1 => ti σ G1 fun i G2 => r o i v G2 fun G3 => R σ G3
theorem qg_sub {o i : Expr} {to ti : DE} {r : DSet} (ho : QE X o to) (hi : QE X i ti) (hs : SetD X r)
    (ha : ∀ v, assign (.Subscript o i pos) X.env v = (do
      let ov ← holding [v] (eval o X.env)
      let iv ← holding [v, ov] (eval i X.env)
      standAt pos
      holding [v, ov, iv] (setItem ov iv v)
      release [v, ov, iv] []) := by intro _; rfl) : QG X (.Subscript o i pos) (dSub to ti r) := pg_mono (pg_sub ho hi hs ha) fun v τ H Q h => by
  obtain ⟨d, σ, G, N, R, rd, rs, rg, h0, q⟩ := h
  refine ⟨σ, G, N, _, rs, rg, h0, fun x G1 N1 v1 H1 h1 s1 r1 => ?_⟩
  refine ⟨σ, G1, N1, _, rs.le s1.kp, s1.rel, h1, fun y G2 N2 v2 H2 h2 s2 r2 => ?_⟩
  exact ⟨x, y, d, G2, N2, _, r1.le s2.kp, r2, (rd.le s1.kp).le s2.kp, s2.rel, h2, fun G3 N3 H3 h3 s3 => q _ _ _ _ _ h3 ((s1.trans s2).trans s3) (((rs.le s1.kp).le s2.kp).le s3.kp)⟩
/-- name op= e -/
def dAug (i : Nat) (te : DE) (r : DR2) : DS := fun D σ G => match σ[i]? with | some (some x) => te σ G fun y G1 => r x y G1 fun z G2 => D.nx (σ.set i (some z)) G2 | _ => False
def GetD (X : Cx) (r : DR2) : Prop := PGet X (upR2 X.K r)
def dAugS (to ti te : DE) (rg rp : DR2) (rs : DSet) : DS := fun D σ G => to σ G fun o G1 => ti σ G1 fun i G2 => rg o i G2 fun x G3 => te σ G3 fun y G4 => rp x y G4 fun z G5 => rs o i z G5 fun G6 => D.nx σ G6
theorem qs_augS {o i : Expr} {to ti : DE} {rg rp : DR2} {rs : DSet} {op : Operator} {tpos : Pos} (ho : QE X o to) (hi : QE X i ti) (hg : GetD X rg) (he : QE X e te) (hp : OpD X (inplaceOp op) rp) (hs : SetD X rs)
    (ha : ∀ ov iv new, augStore i ov iv new = (do holding [new, ov, iv] (setItem ov iv new); release [new, ov, iv] []; pure .next) := by intros; rfl) : QS X (.AugAssign (.Subscript o i tpos) op e pos) (dAugS to ti te rg rp rs) :=
  ps_mono (ps_augS (tip := upR2 X.K rp) ho hi hg he (fun pins s σ H x y v u Q I r1 r2 q => hp pins s σ H x y v u Q I r1 r2 q) hs ha) fun D τ H h => by
  obtain ⟨σ, G, N, E, hs, hg, ht, q⟩ := h
  refine ⟨σ, G, N, _, hs, hg, ht, fun o G1 N1 v1 H1 h1 s1 r1 => ?_⟩
  refine ⟨σ, G1, N1, _, hs.le s1.kp, s1.rel, h1, fun i G2 N2 v2 H2 h2 s2 r2 => ?_⟩
  refine ⟨o, i, G2, N2, _, r1.le s2.kp, r2, s2.rel, h2, fun x G3 N3 v3 H3 h3 s3 r3 => ?_⟩
  have s13 := (s1.trans s2).trans s3
  refine ⟨σ, G3, N3, _, hs.le s13.kp, s3.rel, h3, fun y G4 N4 v4 H4 h4 s4 r4 => ?_⟩
  refine ⟨x, y, G4, N4, _, r3.le s4.kp, r4, s4.rel, h4, fun z G5 N5 v5 H5 h5 s5 r5 => ?_⟩
  have s25 := ((s2.trans s3).trans s4).trans s5
  have s15 := s1.trans s25
  exact ⟨o, i, z, G5, N5, _, r1.le s25.kp, r2.le ((s3.trans s4).trans s5).kp, r5, s5.rel, h5, fun G6 N6 H6 h6 s6 => q.nx _ _ _ _ _ h6 (s15.trans s6) (hs.le (s15.trans s6).kp)⟩
end
/-! ### while -/
section
variable {X : Cx} {pos : Pos}
def dWhN (c : DT) (tb : DS) (D : DEnds) : Nat → Sd → Gp → Prop
  | 0, _, _ => False
  | n + 1, σ, G => c σ G fun b G1 => match b with | true => tb { D with nx := dWhN c tb D n, ct := dWhN c tb D n, bk := D.nx } σ G1 | false => D.nx σ G1
def dWhile (c : DT) (tb : DS) : DS := fun D σ G => ∃ n, dWhN c tb D n σ G
theorem qs_while {c : Expr} {body : List Stmt} {tc : DT} {tb : DS} (hp : PassesOwn (model X.prog X.w) X.A X.env X.xe) (hc : QT X c tc) (hb : QSs X body tb) : QS X (.While c body [] pos) (dWhile tc tb) := ps_mono (ps_while hp hc hb) fun D τ H h => by
  obtain ⟨σ, G, N, E, hs, hg, ⟨n, ht⟩, q⟩ := h
  refine ⟨fun m τ' H' => ∃ σ' G' N', RSt X.K H' N' σ' τ' ∧ Stp X.K H N G H' N' G' ∧ dWhN tc tb E m σ' G', ⟨n, σ, G, N, hs, Stp.refl hg, ht⟩, ?_⟩
  rintro m τ1 H1 ⟨σ1, G1, N1, r1, s1, h1⟩
  cases m with
  | zero => exact h1.elim
  | succ m =>
    refine ⟨σ1, G1, N1, _, r1, s1.rel, h1, fun b G2 N2 H2 h2 s2 => ?_⟩
    cases b with
    | true =>
      rw [if_pos rfl]
      refine ⟨fun τ' H' => ∃ σ' G' N', RSt X.K H' N' σ' τ' ∧ Stp X.K H N G H' N' G' ∧ dWhN tc tb E m σ' G', fun τ' H' z => ⟨m, Nat.lt_succ_self m, z⟩, ?_⟩
      have s12 := s1.trans s2
      refine ⟨σ1, G2, N2, _, r1.le s2.kp, s2.rel, h2, ⟨fun σ' G' N' τ' H' h s' r => ⟨σ', G', N', r, s12.trans s', h⟩, (q.le s12).rt, fun σ' G' N' τ' H' h s' r => q.nx _ _ _ _ _ h (s12.trans s') r, fun σ' G' N' τ' H' h s' r => ⟨σ', G', N', r, s12.trans s', h⟩⟩⟩
    | false =>
      rw [if_neg Bool.false_ne_true]
      exact q.nx _ _ _ _ _ h2 (s1.trans s2) (r1.le s2.kp)
end
/-! ### what is walked -/
abbrev DI := Sd → Gp → (List D → (Gp → Prop) → Gp → Prop) → Prop
/-- J yields the things xs, one behind the other, wherever gd holds of what is known -/
structure Yl (K : PySem.W.Frag) (J : It) (H0 : Hp) (N0 : Ns) (G0 : Gp) (xs : List D) (gd : Gp → Prop) : Prop where
  go : ∀ i H N G d, Stp K H0 N0 G0 H N G → gd G → xs[i]? = some d → J.go i H ∧ ∀ x H', J.yld i H x H' → Stp K H N G H' N G ∧ RD K H' N d x
  stop : ∀ i H N G, Stp K H0 N0 G0 H N G → gd G → xs.length = i → J.stop i H
theorem Yl.of {K : PySem.W.Frag} {J : It} {H0 : Hp} {N0 : Ns} {G0 : Gp} {xs : List D} {gd : Gp → Prop} (go : ∀ i H N G d, Stp K H0 N0 G0 H N G → gd G → xs[i]? = some d → J.go i H ∧ ∀ x H', J.yld i H x H' → Stp K H N G H' N G ∧ RD K H' N d x)
    (stop : ∀ i H N G, Stp K H0 N0 G0 H N G → gd G → xs.length ≤ i → J.stop i H) : Yl K J H0 N0 G0 xs gd := ⟨go, fun i H N G s g e => stop i H N G s g (Nat.le_of_eq e)⟩
def upI (K : PySem.W.Frag) (ti : DI) : TI := fun τ H R => ∃ σ G N R', RSt K H N σ τ ∧ RelG K H N G ∧ ti σ G R' ∧ ∀ xs gd G' N' J H', R' xs gd G' → Stp K H N G H' N' G' → Yl K J H' N' G' xs gd → R J H'
def QI (X : Cx) (tg iter : Expr) (ti : DI) : Prop := PI X tg iter (upI X.K ti)
theorem pi_mono {X : Cx} {tg e : Expr} {t t' : TI} (h : PI X tg e t) (i : ∀ τ H Q, t' τ H Q → t τ H Q) : PI X tg e t' := ⟨fun pins s σ H Q I q => h.run pins s σ H Q I (i σ H Q q)⟩
def dForGo (g : DG) (tb : DS) (gd : Gp → Prop) (E : DEnds) : List D → Sd → Gp → Prop
  | [], σ, G => gd G ∧ E.nx σ G
  | x :: xs, σ, G => gd G ∧ g x σ G fun σ2 G2 => tb { E with nx := dForGo g tb gd E xs, ct := dForGo g tb gd E xs, bk := E.nx } σ2 G2
def dFor (ti : DI) (g : DG) (tb : DS) : DS := fun D σ G => ti σ G fun xs gd G1 => dForGo g tb gd D xs σ G1
section
variable {X : Cx} {tg : Expr} {pos : Pos}
theorem qs_for {iter : Expr} {body : List Stmt} {ti : DI} {g : DG} {tb : DS} (hp : PassesOwn (model X.prog X.w) X.A X.env X.xe) (hc : X.calm = true) (hi : QI X tg iter ti) (hg : QG X tg g) (hb : QSs X body tb)
    (hs : ∀ x, foldedSetIterable iter X.env x = pure x := by intro _; rfl) : QS X (.For tg iter body [] pos) (dFor ti g tb) := ps_mono (ps_for hp hc hi hg hb hs) fun D τ H h => by
  obtain ⟨σ, G, N, E, hs, hg, ht, q⟩ := h
  refine ⟨σ, G, N, _, hs, hg, ht, fun xs gd G1 N1 J H1 h1 s1 y => ?_⟩
  refine ⟨fun i m τ' H' => m = xs.length - i ∧ i ≤ xs.length ∧ ∃ σ' G' N', RSt X.K H' N' σ' τ' ∧ Stp X.K H1 N1 G1 H' N' G' ∧ dForGo g tb gd E (xs.drop i) σ' G', ⟨xs.length, rfl, Nat.zero_le _, σ, G1, N1, hs.le s1.kp, Stp.refl s1.rel, h1⟩, ?_⟩
  rintro i m τ2 H2 ⟨rfl, hi, σ2, G2, N2, r2, s2, h2⟩
  by_cases hlt : i < xs.length
  · rw [List.drop_eq_getElem_cons hlt] at h2
    obtain ⟨hgd, h2⟩ := h2
    obtain ⟨go, yld⟩ := y.go i H2 N2 G2 xs[i] s2 hgd (List.getElem?_eq_getElem hlt)
    refine .inr ⟨go, fun τ' H' => ∃ σ' G' N', RSt X.K H' N' σ' τ' ∧ Stp X.K H1 N1 G1 H' N' G' ∧ dForGo g tb gd E (xs.drop (i + 1)) σ' G', fun τ' H' z => ⟨xs.length - (i + 1), by omega, rfl, hlt, z⟩, fun x H3 hy => ?_⟩
    obtain ⟨s3, r3⟩ := yld x H3 hy
    refine ⟨xs[i], σ2, G2, N2, _, r3, r2.le s3.kp, s3.rel, h2, fun σ4 G4 N4 τ4 H4 h4 s4 r4 => ?_⟩
    have s14 := (s2.trans s3).trans s4
    refine ⟨σ4, G4, N4, _, r4, s4.rel, h4, ⟨fun σ' G' N' τ' H' h s' r => ⟨σ', G', N', r, s14.trans s', h⟩, (q.le (s1.trans s14)).rt, fun σ' G' N' τ' H' h s' r => q.nx _ _ _ _ _ h ((s1.trans s14).trans s') r, fun σ' G' N' τ' H' h s' r => ⟨σ', G', N', r, s14.trans s', h⟩⟩⟩
  · have e : i = xs.length := by omega
    subst e
    rw [List.drop_length] at h2
    exact .inl ⟨y.stop _ H2 N2 G2 s2 h2.1 rfl, q.nx _ _ _ _ _ h2.2 (s1.trans s2) r2⟩
end
/-! ### comprehensions -/
def wipeD (σ : Sd) : List Nat → Sd
  | [] => σ
  | v :: vs => (wipeD σ vs).set v none
theorem RSt.wipe {K : PySem.W.Frag} {H : Hp} {N : Ns} {σ : Sd} {τ : L2.St} (h : RSt K H N σ τ) : ∀ vs : List Nat, RSt K H N (wipeD σ vs) (L2.wipe τ vs)
  | [] => h
  | v :: vs => by
    have ih := RSt.wipe h vs
    unfold wipeD L2.wipe
    refine ⟨by rw [List.length_set, List.length_set]; exact ih.1, fun i d e => ?_⟩
    by_cases hj : v = i
    · subst hj
      rw [List.getElem?_set] at e
      simp only [if_true] at e
      split at e
      · cases e
      · cases e
    · rw [List.getElem?_set_ne hj] at e ⊢
      exact ih.2 i d e
def dLcGo (g : DG) (tt : DT) (te : DE) (gd : Gp → Prop) (σ : Sd) : List D → List D → Gp → (List D → Gp → Prop) → Prop
  | [], acc, G, Q => gd G ∧ Q acc G
  | x :: xs, acc, G, Q => gd G ∧ g x σ G fun σ2 G2 => tt σ2 G2 fun b G3 => match b with
    | true => te σ2 G3 fun y G4 => dLcGo g tt te gd σ xs (acc ++ [y]) G4 Q
    | false => dLcGo g tt te gd σ xs acc G3 Q
def dLc (mk : Bool) (ti : DI) (g : DG) (tt : DT) (te : DE) (ws : List Nat) : DE := fun σ G R => ti σ G fun xs gd G1 => xs.length ≤ sizeLine ∧ dLcGo g tt te gd (wipeD σ ws) xs [] G1 fun ds G2 => newL mk ds G2 R
def QTs (X : Cx) (ifs : List Expr) (t : DT) : Prop := PTs X ifs (upT X.K t)
def dYes : DT := fun _ G R => R true G
theorem qts_nil {X : Cx} : QTs X [] dYes := ⟨fun pins s σ H Q I h => (pts_nil (X := X)).run pins s σ H Q I (by
  obtain ⟨σ', G, N, R, hs, hg, ht, q⟩ := h
  exact q _ _ _ _ ht (Stp.refl hg))⟩
theorem qts_one {X : Cx} {c : Expr} {t : DT} (h : QT X c t) : QTs X [c] t := pts_one h
theorem up_lc {K : PySem.W.Frag} {mk : Bool} {ti : DI} {vg : TG} {g : DG} {tt : DT} {te : DE} {ws : List Nat} (tgo : TgOk K vg g ws) {τ : L2.St} {H : Hp} {Q : VK} (h : up K (dLc mk ti g tt te ws) τ H Q) : tLc (upI K ti) vg (upT K tt) (up K te) ws τ H Q := by
  obtain ⟨σ, G, N, R, hs, hg, ht, q⟩ := h
  refine ⟨σ, G, N, _, hs, hg, ht, fun xs gd G1 N1 J H1 h1 s1 y => ?_⟩
  obtain ⟨hlen, h1⟩ := h1
  intro p np
  have q1 := q.le s1
  let Q' : List D → Gp → Prop := fun ds G2 => newL mk ds G2 R
  refine ⟨fun i m H' => m = xs.length - i ∧ i ≤ xs.length ∧ ∃ acc vacc G' N', H' p = some (.lst vacc) ∧ RDs K H' N' acc vacc ∧ acc.length ≤ i ∧ G' p = none ∧ N' p ∧ Stp K H1 N1 G1 H' N' G' ∧ dLcGo g tt te gd (wipeD σ ws) (xs.drop i) acc G' Q',
    ⟨xs.length, rfl, Nat.zero_le _, [], [], G1, nadd N1 p, upd_same, RDs.nil, Nat.zero_le _, s1.rel.free np, .inl rfl, ?_, h1⟩, ?_⟩
  · refine ⟨Kp.new np, fun q x e n => ⟨by rw [upd_ne (ne_of_none e np)]; exact e, n, .inr⟩, fun a o' e => ?_⟩
    obtain ⟨x, hx, _⟩ := (s1.rel a o' e).2.here
    exact ⟨.inr (s1.rel a o' e).1, (s1.rel a o' e).2.le (Kp.new np) (upd_ne (ne_of_none hx np))⟩
  rintro i m H2 ⟨rfl, hi, acc, vacc, G2, N2, hp2, ra2, hal, gp2, nn2, s2, h2⟩
  by_cases hlt : i < xs.length
  · rw [List.drop_eq_getElem_cons hlt] at h2
    obtain ⟨hgd, h2⟩ := h2
    obtain ⟨go, yld⟩ := y.go i H2 N2 G2 xs[i] s2 hgd (List.getElem?_eq_getElem hlt)
    refine .inr ⟨go, fun H' => ∃ acc vacc G' N', H' p = some (.lst vacc) ∧ RDs K H' N' acc vacc ∧ acc.length ≤ i + 1 ∧ G' p = none ∧ N' p ∧ Stp K H1 N1 G1 H' N' G' ∧ dLcGo g tt te gd (wipeD σ ws) (xs.drop (i + 1)) acc G' Q', fun H' z => ⟨xs.length - (i + 1), by omega, rfl, hlt, z⟩, fun x H3 hy => ?_⟩
    obtain ⟨s3, r3⟩ := yld x H3 hy
    have rw3 : RSt K H3 N2 (wipeD σ ws) (L2.wipe τ ws) := (((hs.le s1.kp).le s2.kp).le s3.kp).wipe ws
    refine tgo xs[i] x (wipeD σ ws) (L2.wipe τ ws) H3 N2 G2 _ _ r3 rw3 s3.rel h2 fun σ4 τ4 h4 r4 w4 => ⟨?_, ?_⟩
    · rw [w4]
      have aux : ∀ (us vs : List Nat), (∀ v ∈ us, v ∈ vs) → L2.wipe (L2.wipe τ vs) us = L2.wipe τ vs := by
        intro us
        induction us with
        | nil => intro vs _; rfl
        | cons u us ih =>
          intro vs hv
          show (L2.wipe (L2.wipe τ vs) us).set u none = _
          rw [ih vs (fun v hv' => hv v (List.mem_cons_of_mem _ hv'))]
          have hm := hv u List.mem_cons_self
          apply List.ext_getElem?
          intro j
          by_cases hj : u = j
          · subst hj
            rw [List.getElem?_set]
            simp only [if_true]
            have hn : ∀ x, (L2.wipe τ vs)[u]? ≠ some (some x) := fun x e => (wipe_some e).2 hm
            split
            · rename_i hlt'
              rw [List.getElem?_eq_getElem hlt'] at hn ⊢
              cases e : (L2.wipe τ vs)[u] with
              | none => rfl
              | some z => exact absurd (by rw [e]) (hn z)
            · rename_i hge
              rw [List.getElem?_eq_none (by omega)]
          · rw [List.getElem?_set_ne hj]
      exact aux ws ws fun v h => h
    · refine ⟨σ4, G2, N2, _, r4, s3.rel, h4, fun b G5 N5 H5 h5 s5 => ?_⟩
      obtain ⟨hp3, gp3, _⟩ := s3.fr p _ hp2 gp2
      obtain ⟨hp5, gp5, nn5⟩ := s5.fr p _ hp3 gp3
      have s25 := (s2.trans s3).trans s5
      cases b with
      | false =>
        rw [if_neg Bool.false_ne_true]
        exact ⟨acc, vacc, G5, N5, hp5, (ra2.le s3.kp).le s5.kp, by omega, gp5, nn5 nn2, s25, h5⟩
      | true =>
        rw [if_pos rfl]
        refine ⟨σ4, G5, N5, _, r4.le s5.kp, s5.rel, h5, fun d G6 N6 v6 H6 h6 s6 r6 => ?_⟩
        obtain ⟨hp6, gp6, nn6⟩ := s6.fr p _ hp5 gp5
        have s26 := s25.trans s6
        have ra6 := ((ra2.le s3.kp).le s5.kp).le s6.kp
        have kw := Kp.write (u := .lst (vacc ++ [v6])) (nn6 (nn5 nn2)) hp6 rfl rfl
        have hl6 := ra6.length
        refine ⟨vacc, hp6, by omega, acc ++ [d], vacc ++ [v6], G6, N6, upd_same, (RDs.append ra6 (RDs.cons r6 RDs.nil)).le kw, by simp; omega, gp6, nn6 (nn5 nn2), s26.poke np hp6 gp6 (nn6 (nn5 nn2)) rfl rfl, h6⟩
  · have e : i = xs.length := by omega
    subst e
    rw [List.drop_length] at h2
    refine .inl ⟨y.stop _ H2 N2 G2 s2 h2.1 rfl, ?_⟩
    have h3 : newL mk acc G2 R := h2.2
    cases mk with
    | true =>
      refine q1 (.ref p) (gup G2 p (.lst acc)) N2 _ _ (h3 p gp2) (s2.know np nn2 ⟨vacc, hp2, ra2⟩) (RD.ref p)
    | false =>
      exact q1 (.lst acc) G2 (ndel N2 p) _ _ h3 (s2.calm (.inl np) gp2) (RD.lst (.inl ⟨hp2, fun z => z.1 rfl⟩) (ra2.le Kp.calm))
section
variable {X : Cx}
theorem qe_lc (mk : Bool) {elt tg iter : Expr} {ifs : List Expr} {scope : Scope} {own : List (Str × Nat)} {pos : Pos} {ti : DI} {vg : TG} {g : DG} {tt : DT} {te : DE} (hc : X.calm = true) (hN : X.N.Nodup) (hi : QI X tg iter ti) (ok : BlkOk X.N X.env.scope scope own)
    (hg : ∀ (s : Shared) (H : Hp) (C : Addr) (cl : List (Str × Addr)) (fp : List Addr), PG (X.blk s H scope (compEnvC scope cl C X.env) fp) tg vg) (tgo : TgOk X.K vg g (own.map (·.2)))
    (ht : ∀ (s : Shared) (H : Hp) (C : Addr) (cl : List (Str × Addr)) (fp : List Addr), QTs (X.blk s H scope (compEnvC scope cl C X.env) fp) ifs tt)
    (he : ∀ (s : Shared) (H : Hp) (C : Addr) (cl : List (Str × Addr)) (fp : List Addr), QE (X.blk s H scope (compEnvC scope cl C X.env) fp) elt te) (hs : ∀ x, foldedSetIterable iter X.env x = pure x := by intro _; rfl) :
    QE X (.ListComp elt [⟨tg, iter, ifs, 0⟩] scope pos) (dLc mk ti g tt te (own.map (·.2))) :=
  pe_mono (pe_lc (wi := upI X.K ti) (tt := upT X.K tt) (te := up X.K te) hc hN hi ok hg ht he hs) fun τ H Q h => up_lc tgo h
theorem qs_setLc (mk : Bool) {i : Nat} {y : Str} {py : Pos} {elt tg iter : Expr} {ifs : List Expr} {scope : Scope} {own : List (Str × Nat)} {pos spos : Pos} {ti : DI} {vg : TG} {g : DG} {tt : DT} {te : DE} (hc : X.calm = true) (hN : X.N.Nodup) (hy : X.N[i]? = some y) (hyl : X.env.scope.names.lookup y = some .local)
    (hsw : swapsWith (.ListComp elt [⟨tg, iter, ifs, 0⟩] scope pos) (some (.Name y py)) spos.line X.env = pure true) (hi : QI X tg iter ti) (ok : BlkOk X.N X.env.scope scope own)
    (hg : ∀ (s : Shared) (H : Hp) (C : Addr) (cl : List (Str × Addr)) (fp : List Addr), PG (X.blk s H scope (compEnvC scope cl C X.env) fp) tg vg) (tgo : TgOk X.K vg g (own.map (·.2)))
    (ht : ∀ (s : Shared) (H : Hp) (C : Addr) (cl : List (Str × Addr)) (fp : List Addr), QTs (X.blk s H scope (compEnvC scope cl C X.env) fp) ifs tt)
    (he : ∀ (s : Shared) (H : Hp) (C : Addr) (cl : List (Str × Addr)) (fp : List Addr), QE (X.blk s H scope (compEnvC scope cl C X.env) fp) elt te) (hs : ∀ x, foldedSetIterable iter X.env x = pure x := by intro _; rfl) :
    QS X (.Assign [.Name y py] (.ListComp elt [⟨tg, iter, ifs, 0⟩] scope pos) spos) (dAsg (dLc mk ti g tt te (own.map (·.2))) (dName i)) :=
  ps_mono (ps_setLc (wi := upI X.K ti) (tt := upT X.K tt) (te := up X.K te) hc hN hy hyl hsw hi ok hg ht he hs) fun D τ H h => by
    obtain ⟨σ, G, N, E, hs, hg, ht, q⟩ := h
    refine up_lc tgo ⟨σ, G, N, _, hs, hg, ht, fun d G' N' v H' h s' r => ?_⟩
    exact q.nx _ _ _ _ _ h s' ((hs.le s'.kp).set r i)
end
/-! ### defs -/
abbrev DSp := List D → Gp → DK → Prop
def upSp (K : PySem.W.Frag) (sp : DSp) : Sp := fun vs H Q _ => ∃ ds G N R, RDs K H N ds vs ∧ RelG K H N G ∧ sp ds G R ∧ UpQ K H N G R Q
/-- the def at f keeps the promise sp, by data; no exception leaves it -/
def FnD (P : Program) (w : World) (K : PySem.W.Frag) (mg : Str → Option Value) (base : Heap) (k : Nat) (f : Addr) (fd : FuncData) (ps : List Str) (sp : DSp) : Prop := FnOk P w K mg base CX0 k f fd ps (upSp K sp)
theorem FnD.mono {P : Program} {w : World} {K : PySem.W.Frag} {mg : Str → Option Value} {base : Heap} {j k : Nat} {f : Addr} {fd : FuncData} {ps : List Str} {sp : DSp} (F : FnD P w K mg base j f fd ps sp) (h : j ≤ k) : FnD P w K mg base k f fd ps sp := FnOk.mono F h
theorem FnD.imp {P : Program} {w : World} {K : PySem.W.Frag} {mg : Str → Option Value} {base : Heap} {k : Nat} {f : Addr} {fd : FuncData} {ps : List Str} {sp sp' : DSp} (F : FnD P w K mg base k f fd ps sp) (h : ∀ ds G R, sp' ds G R → sp ds G R) : FnD P w K mg base k f fd ps sp' :=
  FnOk.imp F fun vs H Q E ⟨ds, G, N, R, r1, r2, h1, q⟩ => ⟨ds, G, N, R, r1, r2, h ds G R h1, q⟩
def startD (n : Nat) (ds : List D) : Sd := ds.map some ++ List.replicate (n - ds.length) none
theorem RSt.begin {K : PySem.W.Frag} {H : Hp} {N : Ns} {M : List Str} {ds : List D} {vs : List V} (r : RDs K H N ds vs) : RSt K H N (startD M.length ds) (start M vs) := by
  have hl := r.length
  refine ⟨by unfold startD L2.start; simp; omega, fun i d e => ?_⟩
  unfold startD at e
  by_cases hi : i < ds.length
  · rw [List.getElem?_append_left (by simpa using hi), List.getElem?_map, List.getElem?_eq_getElem hi] at e
    have e' : ds[i] = d := by simpa using e
    obtain ⟨v, h1, h2⟩ := r.get (List.getElem?_eq_getElem hi)
    refine ⟨v, ?_, by rw [← e']; exact h2⟩
    unfold L2.start
    rw [List.getElem?_append_left (by rw [List.length_map]; omega), List.getElem?_map, h1]
    rfl
  · rw [List.getElem?_append_right (by simpa using hi), List.getElem?_replicate] at e
    split at e
    · cases e
    · cases e
section
variable {P : Program} {w : World} {K : PySem.W.Frag} {mg : Str → Option Value} {base : Heap}
theorem fun_okD {x qual : Str} {st : Stmt} {f : Addr} {fd : FuncData} {M ps : List Str} {k : Nat} {sp : DSp} (F : Fun K x qual st f fd) (S : FnScope M ps (defScope st)) (len : ∀ ds G R, sp ds G R → ds.length = ps.length)
    (hbody : ∀ (cdv : Value) (A : Around) (outer : List Env) (s : Shared) (H : Hp), Room k (A.deeper (envOfC qual (defScope st) s.heap.objs.size f cdv)) →
      ∃ t, QSs (cxOf CX0 P w K mg base M qual (defScope st) f cdv A outer s H E0).nox (defBody st) t ∧ ∀ (ds : List D) (G : Gp) (R : DK), sp ds G R → t { nx := fun _ G1 => ∃ G', Sub G' G1 ∧ R .non G', rt := R } (startD M.length ds) G) : FnD P w K mg base (k + 1) f fd ps sp := by
  refine F.ok S (fun vs H Q E h => ?_) (fun cdv A outer s H vs Q E hr h => ?_)
  · obtain ⟨ds, G, N, R, r1, _, h1, _⟩ := h
    rw [← r1.length]; exact len ds G R h1
  · obtain ⟨ds, G, N, R, r1, r2, h1, q⟩ := h
    obtain ⟨t, ht, hq⟩ := hbody cdv A outer s H hr
    refine ⟨upS K t, ht, startD M.length ds, G, N, _, RSt.begin r1, r2, hq ds G R h1, ⟨fun σ' G' N' τ' H' h s' r => ?_, q, fun _ _ _ _ _ h => h.elim, fun _ _ _ _ _ h => h.elim⟩⟩
    obtain ⟨G2, sb, h⟩ := h
    exact q _ _ _ _ _ h (s'.trans (s'.rel.sub sb)) RD.non
end
section
variable {X : Cx} {k : Nat} {f : Addr} {fd : FuncData} {ps : List Str} {sp : DSp} {x : Str} {p pos : Pos} {e : Expr} {es : List Expr} {t : DA}
def dCall (sp : DSp) (t : DA) : DE := fun σ G R => t σ G fun ds G1 => sp ds G1 R
theorem up_call {K : PySem.W.Frag} {τ : L2.St} {H : Hp} {Q : VK} (h : up K (dCall sp t) τ H Q) : tCall (upSp K sp) [] E0 (upA K t) τ H Q := by
  obtain ⟨σ, G, N, R, hs, hg, ht, q⟩ := h
  refine ⟨σ, G, N, _, hs, hg, ht, fun ds G1 N1 vs H1 h1 s1 r1 => ?_⟩
  show upSp K sp (vs ++ []) H1 Q E0
  rw [List.append_nil]
  exact ⟨ds, G1, N1, R, r1, s1.rel, h1, q.le s1⟩
theorem qe_call (F : FnD X.prog X.w X.K X.mg X.base k f fd ps sp) (hr : Room k X.A) (hg : Gl X x) (hm : X.mg x = some (.ref f)) (hk : PySem.W.keepIn X.K (.ref f) = true) (hb : Binds X.K fd ps []) (ha : QA X (e :: es) t)
    (hdb : (x == ("__debug__" : Str)) = false := by decide) (he : starEach (e :: es) X.env = (false, eval e X.env) :: starEach es X.env := by rfl) (hpl : (backTo pos (starEach es X.env)).any (·.1) = false := by rfl) :
    QE X (.Call (.Name x p) (e :: es) [] pos) (dCall sp t) := pe_mono (pe_call F hr hg hm hk hb .nil pass0 ha hdb he hpl) fun τ H Q h => up_call h
theorem up_cb {K : PySem.W.Frag} {r : DRn} {τ : L2.St} {H : Hp} {Q : VK} (h : up K (dCallB r t) τ H Q) : tCB (upRn K r) (upA K t) τ H Q := by
  obtain ⟨σ, G, N, R, hs, hg, ht, q⟩ := h
  refine ⟨σ, G, N, _, hs, hg, ht, fun ds G1 N1 vs H1 h1 s1 r1 => ?_⟩
  exact ⟨ds, G1, N1, R, r1, s1.rel, h1, q.le s1⟩
theorem qe_callB {id : String} {r : DRn} (hc : CallD X (.builtin id) r) (hg : Gl X x) (hm : X.mg x = none) (hv : bootBuiltins x = some (.builtin id)) (ha : QA X (e :: es) t) (hn : x ≠ "__name__" := by decide) (hdb : (x == ("__debug__" : Str)) = false := by decide)
    (he : starEach (e :: es) X.env = (false, eval e X.env) :: starEach es X.env := by rfl) (hpl : (backTo pos (starEach es X.env)).any (·.1) = false := by rfl) : QE X (.Call (.Name x p) (e :: es) [] pos) (dCallB r t) :=
  pe_mono (pe_callB hc hg hm hv ha hn hdb he hpl) fun τ H Q h => up_cb h
theorem qe_callTy {id : String} {r : DRn} (hc : CallD X (.type id) r) (hg : Gl X x) (hm : X.mg x = none) (hv : bootBuiltins x = some (.type id)) (ha : QA X (e :: es) t) (hn : x ≠ "__name__" := by decide) (hdb : (x == ("__debug__" : Str)) = false := by decide)
    (he : starEach (e :: es) X.env = (false, eval e X.env) :: starEach es X.env := by rfl) (hpl : (backTo pos (starEach es X.env)).any (·.1) = false := by rfl) : QE X (.Call (.Name x p) (e :: es) [] pos) (dCallB r t) :=
  pe_mono (pe_callTy hc hg hm hv ha hn hdb he hpl) fun τ H Q h => up_cb h
end
end DL

set_option Elab.async false
set_option linter.all false
set_option maxRecDepth 100000
set_option maxHeartbeats 4000000
set_option autoImplicit false
namespace DL
open PySem PySem.Spec PyProof.Rows L2

/-! ### lists by data -/
def lstOf (G : Gp) : D → Option (List D)
  | .lst ds => some ds
  | .ref a => match G a with | some (.lst ds) => some ds | _ => none
  | _ => none
theorem lstOf_ok {K : PySem.W.Frag} {H : Hp} {N : Ns} {G : Gp} {d : D} {v : V} {ds : List D} (rg : RelG K H N G) (rd : RD K H N d v) (h : lstOf G d = some ds) : ∃ p vs, v = .ref p ∧ SqL K H p vs ∧ RDs K H N ds vs := by
  cases d with
  | lst es =>
    obtain ⟨p, vs, rfl, l, r⟩ := rd.of_lst
    cases h
    exact ⟨p, vs, rfl, l.sq, r⟩
  | ref a =>
    obtain rfl := rd.of_ref
    unfold lstOf at h
    simp only at h
    split at h
    · rename_i es e
      cases h
      obtain ⟨_, vs, hv, r⟩ := rg a _ e
      exact ⟨a, vs, rfl, SqL.of hv, r⟩
    · cases h
  | _ => cases h
section
variable {X : Cx}
/-! ### list + list, whatever lists -/
def rCatL (K : PySem.W.Frag) : R2 := fun x y H Q => ∃ l b xs zs, x = .ref l ∧ y = .ref b ∧ SqL K H l xs ∧ SqL K H b zs ∧ xs.length + zs.length ≤ sizeLine ∧ ∀ p, H p = none → Q (.ref p) (upd H p (.lst (xs ++ zs)))
theorem op_catL : OpR X (binaryOp .Add) (rCatL X.K) := by
  intro pins s σ H x y v u Q I rx ry h
  obtain ⟨l, b, xs, zs, rfl, rfl, hH, hB, hz, q⟩ := h
  cases rx
  cases ry
  obtain ⟨its, r, pl, _⟩ := I.list hH
  obtain ⟨its2, r2, pl2, _⟩ := I.list hB
  obtain ⟨⟨cls, dd, data, sl⟩, ho, hc, n, hd⟩ := pl.isList
  obtain ⟨⟨cls2, dd2, data2, sl2⟩, ho2, hc2, n2, hd2⟩ := pl2.isList
  simp only at hc hd hc2 hd2
  subst hc hd hc2 hd2
  have hl := r.length
  have hl2 := r2.length
  have e : its.toArray ++ its2.toArray = (its ++ its2).toArray := by simp
  refine concat_meets ⟨_, ho, rfl⟩ ⟨_, ho2, rfl⟩ noFill_list_add seq_list_add PySem.F.slot_list_add PySem.F.entry_list_add (PySem.F.args_list_add_2 _ _) (list_addW l b its.toArray its2.toArray n n2 dd dd2 sl sl2 (by simp; omega)) ⟨ho, ho2, ?_⟩
  rw [e]
  exact ⟨.ref _, _, I.lnew (t' := s.toks) (r.append r2) (by rw [List.length_append]; omega), rfl, q _ I.fresh⟩
/-! ### arithmetic -/
theorem op_mulX : OpR X (binaryOp .Mult) (rI IntMulOk fun i j => .int (i * j)) := opI fun _ _ _ _ _ _ _ hc q => mul_int q hc
def CPowX (i j : Int) : Prop := 0 ≤ j ∧ (Builtin.Int.intBits i : Int) * j ≤ 2 ^ 27
theorem op_powX : OpR X (binaryOp .Pow) (rI CPowX fun i j => .int (i ^ j.toNat)) := opI fun _ _ _ _ _ _ _ hc q => pow_int hc.1 hc.2 q
def dAdd (mk : Bool) : DR2 := fun x y G R => match x, y with
  | .int i, .int j => R (.int (i + j)) G
  | .str a, .str b => a.length + b.length ≤ sizeLine ∧ R (.str (a ++ b)) G
  | .tup a, .tup b => a.length + b.length ≤ sizeLine ∧ R (.tup (a ++ b)) G
  | x, y => match lstOf G x, lstOf G y with | some a, some b => a.length + b.length ≤ sizeLine ∧ newL mk (a ++ b) G R | _, _ => False
theorem od_add (mk : Bool) : OpD X (binaryOp .Add) (dAdd mk) := opr_mono (op_add.or (op_add_str.or (op_catA.or op_catL))) fun x y H Q h => by
  obtain ⟨c, d, G, N, R, r1, r2, rg, h, q⟩ := h
  unfold dAdd at h
  split at h
  · rename_i i j
    obtain rfl := r1.of_int
    obtain rfl := r2.of_int
    exact .inl ⟨i, j, rfl, rfl, q.at rg h (RD.int _)⟩
  · rename_i i j
    obtain rfl := r1.of_str
    obtain rfl := r2.of_str
    exact .inr (.inl ⟨i, j, rfl, rfl, h.1, q.at rg h.2 (RD.str _)⟩)
  · rename_i a b
    obtain ⟨p, vs, rfl, s1, d1⟩ := r1.of_tup
    obtain ⟨p2, vs2, rfl, s2, d2⟩ := r2.of_tup
    have l1 := d1.length
    have l2 := d2.length
    refine .inr (.inr (.inl ⟨p, p2, vs, vs2, rfl, rfl, s1, s2, by omega, fun e => ?_, fun e e2 => ?_, fun e e2 p np => ?_⟩))
    · subst e
      have e3 : a = [] := List.eq_nil_of_length_eq_zero (by simpa using l1)
      subst e3
      exact q.at rg h.2 (RD.tup s2 d2)
    · subst e2
      have e3 : b = [] := List.eq_nil_of_length_eq_zero (by simpa using l2)
      subst e3
      rw [List.append_nil] at h
      exact q.at rg h.2 (RD.tup s1 d1)
    · exact newT_ok rg (d1.append d2) h.2 q np
  · split at h
    · rename_i a b ea eb
      obtain ⟨p, vs, rfl, s1, d1⟩ := lstOf_ok rg r1 ea
      obtain ⟨p2, vs2, rfl, s2, d2⟩ := lstOf_ok rg r2 eb
      have l1 := d1.length
      have l2 := d2.length
      exact .inr (.inr (.inr ⟨p, p2, vs, vs2, rfl, rfl, s1, s2, by omega, fun p np => newL_ok rg (d1.append d2) h.2 q np⟩))
    · exact h.elim
/-- two ints, under C -/
def dI (C : Int → Int → Prop) (g : Int → Int → D) : DR2 := fun x y G R => match x, y with | .int i, .int j => C i j ∧ R (g i j) G | _, _ => False
def dI0 (g : Int → Int → D) : DR2 := fun x y G R => match x, y with | .int i, .int j => R (g i j) G | _, _ => False
theorem od_I {f : Value → Value → Sem Value} {C : Int → Int → Prop} {g : Int → Int → Int} (h : OpR X f (rI C fun i j => .int (g i j))) : OpD X f (dI C fun i j => .int (g i j)) := opr_mono h fun x y H Q h => by
  obtain ⟨c, d, G, N, R, r1, r2, rg, h, q⟩ := h
  unfold dI at h
  split at h
  · obtain rfl := r1.of_int
    obtain rfl := r2.of_int
    exact ⟨_, _, rfl, rfl, h.1, q.at rg h.2 (RD.int _)⟩
  · exact h.elim
theorem od_I0 {f : Value → Value → Sem Value} {g : Int → Int → Int} (h : OpR X f (rI0 fun i j => .int (g i j))) : OpD X f (dI0 fun i j => .int (g i j)) := opr_mono h fun x y H Q h => by
  obtain ⟨c, d, G, N, R, r1, r2, rg, h, q⟩ := h
  unfold dI0 at h
  split at h
  · obtain rfl := r1.of_int
    obtain rfl := r2.of_int
    exact ⟨_, _, rfl, rfl, q.at rg h (RD.int _)⟩
  · exact h.elim
def dMinus : DR2 := dI0 fun i j => .int (i - j)
def dMul : DR2 := dI IntMulOk fun i j => .int (i * j)
def dFdiv : DR2 := dI CDivW fun i j => .int (i / j)
def dMod : DR2 := dI (fun _ j => 0 < j) fun i j => .int (i % j)
def dPow : DR2 := dI CPowX fun i j => .int (i ^ j.toNat)
def dShl : DR2 := dI CShl fun i j => .int (i * 2 ^ j.toNat)
theorem od_sub : OpD X (binaryOp .Sub) dMinus := od_I0 op_sub
theorem od_mul : OpD X (binaryOp .Mult) dMul := od_I op_mulX
theorem od_fdiv : OpD X (binaryOp .FloorDiv) dFdiv := od_I op_fdivW
theorem od_mod : OpD X (binaryOp .Mod) dMod := od_I op_mod
theorem od_pow : OpD X (binaryOp .Pow) dPow := od_I op_powX
theorem od_shl : OpD X (binaryOp .LShift) dShl := od_I op_shlW
/-- += of ints, texts -/
def dIadd : DR2 := fun x y G R => match x, y with
  | .int i, .int j => R (.int (i + j)) G
  | .str a, .str b => a.length + b.length ≤ sizeLine ∧ R (.str (a ++ b)) G
  | _, _ => False
theorem od_iadd : OpD X (inplaceOp .Add) dIadd := opr_mono (iop_add.or iop_add_str) fun x y H Q h => by
  obtain ⟨c, d, G, N, R, r1, r2, rg, h, q⟩ := h
  unfold dIadd at h
  split at h
  · obtain rfl := r1.of_int
    obtain rfl := r2.of_int
    exact .inl ⟨_, _, rfl, rfl, q.at rg h (RD.int _)⟩
  · obtain rfl := r1.of_str
    obtain rfl := r2.of_str
    exact .inr ⟨_, _, rfl, rfl, h.1, q.at rg h.2 (RD.str _)⟩
  · exact h.elim
theorem od_isub : OpD X (inplaceOp .Sub) dMinus := od_I0 iop_sub
def dNeg : DR1 := fun x G R => match x with | .int i => R (.int (-i)) G | _ => False
theorem od_neg : UnD X (unaryOp .USub) dNeg := unr_mono un_neg fun x H Q h => by
  obtain ⟨c, G, N, R, r1, rg, h, q⟩ := h
  unfold dNeg at h
  split at h
  · obtain rfl := r1.of_int
    exact ⟨_, rfl, q.at rg h (RD.int _)⟩
  · exact h.elim
/-! ### comparisons -/
/-- the order of ints and of texts -/
def dOrd (pi : Int → Int → Bool) (ps : Str → Str → Bool) : DR2 := fun x y G R => match x, y with
  | .int i, .int j => R (.bl (pi i j)) G
  | .str a, .str b => R (.bl (ps a b)) G
  | _, _ => False
theorem od_ord {f : Value → Value → Sem Value} {pi : Int → Int → Bool} {ps : Str → Str → Bool} (h1 : OpR X f (rI0 fun i j => .bl (pi i j))) (h2 : OpR X f (fun x y H Q => ∃ i j, x = .str i ∧ y = .str j ∧ Q (.bl (ps i j)) H)) : OpD X f (dOrd pi ps) := opr_mono (h1.or h2) fun x y H Q h => by
  obtain ⟨c, d, G, N, R, r1, r2, rg, h, q⟩ := h
  unfold dOrd at h
  split at h
  · obtain rfl := r1.of_int
    obtain rfl := r2.of_int
    exact .inl ⟨_, _, rfl, rfl, q.at rg h (RD.bl _)⟩
  · obtain rfl := r1.of_str
    obtain rfl := r2.of_str
    exact .inr ⟨_, _, rfl, rfl, q.at rg h (RD.bl _)⟩
  · exact h.elim
def sLt (a b : Str) : Bool := decide (a.cps.toList < b.cps.toList)
def dLt : DR2 := dOrd (fun i j => decide (i < j)) fun a b => sLt a b
def dLe : DR2 := dOrd (fun i j => decide (i ≤ j)) fun a b => !sLt b a
def dGt : DR2 := dOrd (fun i j => decide (j < i)) fun a b => sLt b a
def dGe : DR2 := dOrd (fun i j => decide (j ≤ i)) fun a b => !sLt a b
theorem od_lt : OpD X (compareOp .Lt) dLt := od_ord op_lt op_lt_str
theorem od_gt : OpD X (compareOp .Gt) dGt := od_ord op_gt op_gt_str
theorem od_ge : OpD X (compareOp .GtE) dGe := od_ord op_ge op_ge_str
mutual
def toPy : D → Option PyData
  | .non => some .none
  | .bl b => some (.bool b)
  | .int i => some (.int i)
  | .str x => some (.str x)
  | .tup ds => (toPys ds).map .tuple
  | .lst ds => (toPys ds).map .list
  | _ => none
def toPys : List D → Option (List PyData)
  | [] => some []
  | d :: ds => match toPy d, toPys ds with | some a, some b => some (a :: b) | _, _ => none
end
mutual
theorem toPy_ok {K : PySem.W.Frag} {H : Hp} {N : Ns} : ∀ {d : D} {v : V} {a : PyData}, RD K H N d v → toPy d = some a → Dp K H v a
  | .non, _, _, r, h => by simp only [toPy] at h; cases h; rw [r.of_non]; exact .non
  | .bl b, _, _, r, h => by simp only [toPy] at h; cases h; rw [r.of_bl]; exact .bl b
  | .int b, _, _, r, h => by simp only [toPy] at h; cases h; rw [r.of_int]; exact .int b
  | .str b, _, _, r, h => by simp only [toPy] at h; cases h; rw [r.of_str]; exact .str b
  | .tup ds, _, _, r, h => by
    simp only [toPy] at h
    obtain ⟨p, vs, rfl, s, q⟩ := r.of_tup
    cases e : toPys ds with
    | none => rw [e] at h; cases h
    | some as => rw [e] at h; cases h; exact .tup s (toPys_ok q e)
  | .lst ds, _, _, r, h => by
    simp only [toPy] at h
    obtain ⟨p, vs, rfl, s, q⟩ := r.of_lst
    cases e : toPys ds with
    | none => rw [e] at h; cases h
    | some as => rw [e] at h; cases h; exact .lst s.sq (toPys_ok q e)
  | .nt _, _, _, r, h => by simp only [toPy] at h; cases h
  | .ty _, _, _, r, h => by simp only [toPy] at h; cases h
  | .ref _, _, _, r, h => by simp only [toPy] at h; cases h
  | .any _, _, _, r, h => by simp only [toPy] at h; cases h
theorem toPys_ok {K : PySem.W.Frag} {H : Hp} {N : Ns} : ∀ {ds : List D} {vs : List V} {as : List PyData}, RDs K H N ds vs → toPys ds = some as → DpAll K H vs as
  | [], _, _, r, h => by simp only [toPys] at h; cases h; rw [r.of_nil]; exact .nil
  | d :: ds, _, _, r, h => by
    obtain ⟨v, vs, rfl, r1, r2⟩ := r.of_cons
    simp only [toPys] at h
    split at h
    · rename_i a b ea eb
      cases h
      exact .cons (toPy_ok r1 ea) (toPys_ok r2 eb)
    · cases h
end
def gPy (G : Gp) (d : D) : Option PyData := match d with
  | .ref a => match G a with | some (.lst ds) => (toPys ds).map .list | _ => none
  | d => toPy d
theorem gPy_ok {K : PySem.W.Frag} {H : Hp} {N : Ns} {G : Gp} {d : D} {v : V} {a : PyData} (rg : RelG K H N G) (r : RD K H N d v) (h : gPy G d = some a) : Dp K H v a := by
  unfold gPy at h
  split at h
  · rename_i p
    split at h
    · rename_i ds e
      obtain ⟨_, vs, hv, rd⟩ := rg p _ e
      rw [r.of_ref]
      cases e2 : toPys ds with
      | none => rw [e2] at h; cases h
      | some as => rw [e2] at h; cases h; exact .lst (SqL.of hv) (toPys_ok rd e2)
    · cases h
  · exact toPy_ok r h
/-- ==, as a bool of the answer -/
def dEqW (f : Bool → Bool) : DR2 := fun x y G R => match x, y with
  | .int i, .int j => R (.bl (f (decide (i = j)))) G
  | .str i, .str j => R (.bl (f (decide (i = j)))) G
  | .bl i, .bl j => R (.bl (f (decide (i = j)))) G
  | .non, .non => R (.bl (f true)) G
  | x, y => match gPy G x, gPy G y with | some a, some b => SeqAt.shaped a = true ∧ SeqAt.shaped b = true ∧ R (.bl (f (PyData.eqv a b))) G | _, _ => False
theorem dec_int' {i j : Int} : decide (V.int i = V.int j) = decide (i = j) := by rw [Bool.eq_iff_iff]; simp
theorem dec_str' {i j : Str} : decide (V.str i = V.str j) = decide (i = j) := by rw [Bool.eq_iff_iff]; simp
theorem dec_bl' {i j : Bool} : decide (V.bl i = V.bl j) = decide (i = j) := by rw [Bool.eq_iff_iff]; simp
theorem od_eqW {f : Value → Value → Sem Value} {g : Bool → Bool} {H0 : Prop} (h1 : OpR X f (fun x y H Q => scal x y = true ∧ Q (.bl (g (decide (x = y)))) H))
    (h2 : OpR X f (fun x y H Q => ∃ d e, Dp X.K H x d ∧ Dp X.K H y e ∧ SeqAt.shaped d = true ∧ SeqAt.shaped e = true ∧ Q (.bl (g (PyData.eqv d e))) H)) : OpD X f (dEqW g) := opr_mono (h1.or h2) fun x y H Q h => by
  obtain ⟨c, d, G, N, R, r1, r2, rg, h, q⟩ := h
  unfold dEqW at h
  split at h
  · obtain rfl := r1.of_int
    obtain rfl := r2.of_int
    exact .inl ⟨rfl, by rw [dec_int']; exact q.at rg h (RD.bl _)⟩
  · obtain rfl := r1.of_str
    obtain rfl := r2.of_str
    exact .inl ⟨rfl, by rw [dec_str']; exact q.at rg h (RD.bl _)⟩
  · obtain rfl := r1.of_bl
    obtain rfl := r2.of_bl
    exact .inl ⟨rfl, by rw [dec_bl']; exact q.at rg h (RD.bl _)⟩
  · obtain rfl := r1.of_non
    obtain rfl := r2.of_non
    exact .inl ⟨rfl, by simpa using q.at rg h (RD.bl _)⟩
  · split at h
    · rename_i a b ea eb
      exact .inr ⟨a, b, gPy_ok rg r1 ea, gPy_ok rg r2 eb, h.1, h.2.1, q.at rg h.2.2 (RD.bl _)⟩
    · exact h.elim
def dEq : DR2 := dEqW id
def dNe : DR2 := dEqW not
theorem od_eq (hu : X.A.units + 64 < cLine) : OpD X (compareOp .Eq) dEq := od_eqW (H0 := True) (opr_mono op_eq fun _ _ _ _ h => h) (opr_mono (op_eqD hu) fun _ _ _ _ h => h)
theorem od_ne (hu : X.A.units + 64 < cLine) : OpD X (compareOp .NotEq) dNe := od_eqW (H0 := True) (opr_mono op_ne fun _ _ _ _ h => h) (opr_mono (op_neD hu) fun _ _ _ _ h => h)
/-- is None -/
def isNon : D → Bool | .non => true | _ => false
theorem isNon_ok {K : PySem.W.Frag} {H : Hp} {N : Ns} {d : D} {v : V} (r : RD K H N d v) : decide (v = .non) = isNon d := by
  cases d with
  | non => rw [r.of_non]; rfl
  | bl b => rw [r.of_bl]; rfl
  | int b => rw [r.of_int]; rfl
  | str b => rw [r.of_str]; rfl
  | ty b => rw [r.of_ty]; rfl
  | ref b => rw [r.of_ref]; rfl
  | any b => obtain ⟨a, u, rfl, _⟩ := r.of_any; rfl
  | nt b => obtain ⟨a, rfl, _⟩ := r.of_nt; rfl
  | tup b => obtain ⟨a, u, rfl, _⟩ := r.of_tup; rfl
  | lst b => obtain ⟨a, u, rfl, _⟩ := r.of_lst; rfl
def dIs : DR2 := fun x y G R => match y with | .non => R (.bl (isNon x)) G | _ => False
def dIsNot : DR2 := fun x y G R => match y with | .non => R (.bl (!isNon x)) G | _ => False
theorem od_is : OpD X (compareOp .Is) dIs := opr_mono op_isN fun x y H Q h => by
  obtain ⟨c, d, G, N, R, r1, r2, rg, h, q⟩ := h
  unfold dIs at h
  split at h
  · exact ⟨r2.of_non, by rw [isNon_ok r1]; exact q.at rg h (RD.bl _)⟩
  · exact h.elim
/-! ### in -/
def flatD : D → Bool
  | .non => true | .bl _ => true | .int _ => true | .str _ => true | _ => false
def eqF : D → D → Bool
  | .non, .non => true
  | .bl a, .bl b => a == b
  | .bl a, .int b => (if a then 1 else 0) == b
  | .int a, .bl b => a == (if b then 1 else 0)
  | .int a, .int b => a == b
  | .str a, .str b => a == b
  | _, _ => false
def flatTo : D → V
  | .bl b => .bl b | .int b => .int b | .str b => .str b | _ => .non
theorem flat_ok {K : PySem.W.Frag} {H : Hp} {N : Ns} {d : D} {v : V} (r : RD K H N d v) (f : flatD d = true) : v = flatTo d := by
  cases d with
  | non => exact r.of_non
  | bl b => exact r.of_bl
  | int b => exact r.of_int
  | str b => exact r.of_str
  | _ => cases f
theorem flats_ok {K : PySem.W.Frag} {H : Hp} {N : Ns} : ∀ {ds : List D} {vs : List V}, RDs K H N ds vs → ds.all flatD = true → vs = ds.map flatTo
  | [], _, r, _ => r.of_nil
  | d :: ds, _, r, f => by
    obtain ⟨v, vs, rfl, r1, r2⟩ := r.of_cons
    simp only [List.all_cons, Bool.and_eq_true] at f
    rw [flat_ok r1 f.1, flats_ok r2 f.2]; rfl
theorem flatV_to {d : D} (f : flatD d = true) : flatV (flatTo d) = true := by cases d <;> rfl
theorem eqV_to {c d : D} (f : flatD c = true) (g : flatD d = true) : eqV (flatTo c) (flatTo d) = eqF c d := by
  cases c <;> cases d <;> first | rfl | (simp [flatD] at f; done) | (simp [flatD] at g; done)
def inF (x : D) (ds : List D) : Bool := ds.any fun y => eqF y x
theorem inV_to {x : D} (f : flatD x = true) : ∀ {ds : List D}, ds.all flatD = true → inV (flatTo x) (ds.map flatTo) = inF x ds
  | [], _ => rfl
  | d :: ds, h => by
    simp only [List.all_cons, Bool.and_eq_true] at h
    have ih := inV_to f h.2
    unfold inV inF at ih ⊢
    rw [List.map_cons, List.any_cons, List.any_cons, eqV_to h.1 f, ih]
theorem flatsV_to : ∀ {ds : List D}, ds.all flatD = true → (ds.map flatTo).all flatV = true
  | [], _ => rfl
  | d :: ds, h => by
    simp only [List.all_cons, Bool.and_eq_true] at h
    rw [List.map_cons, List.all_cons, flatV_to h.1, flatsV_to h.2]; rfl
/-- the things of a list or tuple -/
def seqOf (G : Gp) : D → Option (List D)
  | .tup ds => some ds
  | .nt zs => some (zs.map .str)
  | d => lstOf G d
theorem seqOf_ok {K : PySem.W.Frag} {H : Hp} {N : Ns} {G : Gp} {d : D} {v : V} {ds : List D} (rg : RelG K H N G) (rd : RD K H N d v) (h : seqOf G d = some ds) : ∃ p vs, v = .ref p ∧ (SqL K H p vs ∨ SqT K H p vs) ∧ RDs K H N ds vs := by
  unfold seqOf at h
  split at h
  · cases h
    obtain ⟨p, vs, rfl, s, r⟩ := rd.of_tup
    exact ⟨p, vs, rfl, .inr s, r⟩
  · rename_i zs
    cases h
    obtain ⟨p, rfl, s⟩ := rd.of_nt
    exact ⟨p, _, rfl, .inr s.sq, RDs.strs zs⟩
  · obtain ⟨p, vs, rfl, s, r⟩ := lstOf_ok rg rd h
    exact ⟨p, vs, rfl, .inl s, r⟩
def strIn (a b : Str) : Bool := !(Builtin.Str.occurrences b a 0 b.length 1).isEmpty
def dInW (f : Bool → Bool) : DR2 := fun x y G R => match x, y with
  | .str a, .str b => match a.cps.toList with | [c] => R (.bl (f (decide (c ∈ b.cps.toList)))) G | _ => R (.bl (f (strIn a b))) G
  | x, y => match seqOf G y with | some ds => flatD x = true ∧ ds.all flatD = true ∧ R (.bl (f (inF x ds))) G | none => False
theorem str_one {a : Str} {c : Nat} (h : a.cps.toList = [c]) : a = ⟨#[c]⟩ := by
  cases a with
  | mk cps => simp only at h; congr 1; apply Array.toList_inj.mp; simpa using h
theorem od_inW {f : Value → Value → Sem Value} {g : Bool → Bool} (h1 : OpR X f (fun x y H Q => ∃ (c : Nat) (z : Str), x = .str ⟨#[c]⟩ ∧ y = .str z ∧ Q (.bl (g (decide (c ∈ z.cps.toList)))) H))
    (h2 : OpR X f (fun x y H Q => ∃ i j, x = .str i ∧ y = .str j ∧ Q (.bl (g (!(Builtin.Str.occurrences j i 0 j.length 1).isEmpty))) H))
    (h3 : OpR X f (fun x y H Q => ∃ p xs, y = .ref p ∧ (SqL X.K H p xs ∨ SqT X.K H p xs) ∧ flatV x = true ∧ xs.all flatV = true ∧ Q (.bl (g (inV x xs))) H)) : OpD X f (dInW g) := opr_mono (h1.or (h2.or h3)) fun x y H Q h => by
  obtain ⟨c, d, G, N, R, r1, r2, rg, h, q⟩ := h
  unfold dInW at h
  split at h
  · rename_i a b
    obtain rfl := r1.of_str
    obtain rfl := r2.of_str
    split at h
    · rename_i c e
      exact .inl ⟨c, b, by rw [str_one e], rfl, q.at rg h (RD.bl _)⟩
    · exact .inr (.inl ⟨a, b, rfl, rfl, q.at rg h (RD.bl _)⟩)
  · split at h
    · rename_i ds e
      obtain ⟨p, vs, rfl, s, r⟩ := seqOf_ok rg r2 e
      have e1 := flat_ok r1 h.1
      have e2 := flats_ok r h.2.1
      subst e1 e2
      refine .inr (.inr ⟨p, _, rfl, s, flatV_to h.1, flatsV_to h.2.1, ?_⟩)
      rw [inV_to h.1 h.2.1]
      exact q.at rg h.2.2 (RD.bl _)
    · exact h.elim
def dIn : DR2 := dInW id
def dNotIn : DR2 := dInW not
theorem od_in : OpD X (compareOp .In) dIn := od_inW (opr_mono op_in_sign fun _ _ _ _ h => h) (opr_mono op_in_str fun _ _ _ _ h => h) (opr_mono op_in_seq fun _ _ _ _ h => by
  obtain ⟨p, xs, a, b, c, d, e⟩ := h
  exact ⟨p, xs, a, b, c, d, by simpa using e⟩)
theorem od_notIn : OpD X (compareOp .NotIn) dNotIn := od_inW (opr_mono op_notIn_sign fun _ _ _ _ h => h) (opr_mono op_notin_str fun _ _ _ _ h => h) (opr_mono op_notIn_seq fun _ _ _ _ h => by
  obtain ⟨p, xs, a, b, c, d, e⟩ := h
  exact ⟨p, xs, a, b, c, d, by simpa using e⟩)
/-! ### subscripts -/
def dIx : DR2 := fun x y G R => match x, y with
  | .str z, .int i => z.length ≤ sizeLine ∧ (match atI z.cps.toList i with | some c => R (.str ⟨#[c]⟩) G | none => False)
  | x, .int i => match seqOf G x with | some ds => (match atI ds i with | some d => R d G | none => False) | none => False
  | _, _ => False
theorem atI_rd {K : PySem.W.Frag} {H : Hp} {N : Ns} {ds : List D} {vs : List V} {i : Int} {d : D} (r : RDs K H N ds vs) (h : atI ds i = some d) : ∃ v, atI vs i = some v ∧ RD K H N d v := by
  unfold atI at h ⊢
  rw [← r.length]
  cases e : ixN ds.length i with
  | none => rw [e] at h; cases h
  | some j =>
    rw [e] at h
    obtain ⟨v, h1, h2⟩ := r.get (i := j) (d := d) h
    exact ⟨v, h1, h2⟩
theorem xd_ix : IxD X dIx := ixr_mono ix_seq fun x y H Q h => by
  obtain ⟨c, d, G, N, R, r1, r2, rg, h, q⟩ := h
  unfold dIx at h
  split at h
  · rename_i z i
    obtain rfl := r1.of_str
    obtain rfl := r2.of_int
    obtain ⟨hz, h⟩ := h
    split at h
    · rename_i c e
      exact .inr (.inr ⟨z, i, c, rfl, rfl, hz, e, q.at rg h (RD.str _)⟩)
    · exact h.elim
  · rename_i i _
    obtain rfl := r2.of_int
    split at h
    · rename_i ds e
      obtain ⟨p, vs, rfl, s, r⟩ := seqOf_ok rg r1 e
      split at h
      · rename_i d ed
        obtain ⟨v, hv, rv⟩ := atI_rd r ed
        rcases s with s | s
        · exact .inl ⟨p, vs, i, v, rfl, rfl, s, hv, q.at rg h rv⟩
        · exact .inr (.inl ⟨p, vs, i, v, rfl, rfl, s, hv, q.at rg h rv⟩)
      · exact h.elim
    · exact h.elim
  · exact h.elim
/-- a list's item stored -/
def dSetI : DSet := fun o i v G R => match o, i with
  | .ref a, .int k => match G a with | some (.lst ds) => (match ixN ds.length k with | some j => R (gup G a (.lst (ds.set j v))) | none => False) | _ => False
  | _, _ => False
theorem sd_set : SetD X dSetI := by
  intro pins s σ H o i v ov iv u Q I ro ri rv h
  refine set_list pins s σ H o i v ov iv u Q I ro ri rv ?_
  obtain ⟨c, d, e, G, N, R, r1, r2, r3, rg, h, q⟩ := h
  unfold dSetI at h
  split at h
  · rename_i a k
    obtain rfl := r1.of_ref
    obtain rfl := r2.of_int
    split at h
    · rename_i ds ea
      split at h
      · rename_i j ej
        obtain ⟨_, vs, hv, r⟩ := rg a _ ea
        refine ⟨a, vs, k, j, rfl, rfl, hv, by rw [← r.length]; exact ej, ?_⟩
        refine q _ N _ h (Stp.write (u := .lst (vs.set j v)) rg ea hv rfl rfl ⟨_, upd_same, ?_⟩)
        exact (RDs.set r3 j r).le (Kp.write (u := .lst (vs.set j v)) (rg a _ ea).1 hv rfl rfl)
      · exact h.elim
    · exact h.elim
  · exact h.elim
def dGetI : DR2 := fun x y G R => match x, y with
  | .ref a, .int i => (match G a with | some (.lst ds) => (match atI ds i with | some d => R d G | none => False) | _ => False)
  | _, _ => False
theorem gd_ix : GetD X dGetI := by
  intro pins s σ H o i ov iv Q I ro ri h
  obtain ⟨c, d, G, N, R, r1, r2, rg, h, q⟩ := h
  unfold dGetI at h
  split at h
  · rename_i a k
    obtain rfl := r1.of_ref
    obtain rfl := r2.of_int
    split at h
    · rename_i ds ea
      split at h
      · rename_i d ed
        obtain ⟨_, vs, hv, r⟩ := rg a _ ea
        obtain ⟨v, hv2, rv⟩ := atI_rd r ed
        cases ro
        obtain ⟨t, rfl⟩ := ri
        obtain ⟨its, rr, pl, hz⟩ := I.list (SqL.of hv)
        obtain ⟨j, h1, h2, h3, h4, h5⟩ := atI_get hv2
        obtain ⟨w, ew, ru⟩ := rr.get h2
        have hl := rr.length
        have hn := line63
        have fin : EP X pins σ Q w s := ⟨v, H, I, ru, q.at rg h rv⟩
        by_cases h0 : 0 ≤ k
        · have hj : k.toNat = j := by
            rw [seqIndex_of h0 h5] at h1
            exact Option.some.inj h1
          exact wpAny_getItem_list pl.isList h0 (by omega) (by rw [hj]; simpa using ew) fin
        · have hj : (k + (its.toArray.size : Int)).toNat = j := by
            rw [seqIndex_neg (by omega) h4] at h1
            rw [List.size_toArray, ← hl]
            exact Option.some.inj h1
          exact wpAny_getItem_list_neg pl.isList (by omega) (by rw [List.size_toArray] <;> omega) (by omega) (by rw [hj]; simpa using ew) fin
      · exact h.elim
    · exact h.elim
  · exact h.elim
end
end DL

set_option Elab.async false
set_option linter.all false
set_option maxRecDepth 100000
set_option maxHeartbeats 4000000
set_option autoImplicit false
namespace DL
open PySem PySem.Spec PyProof.Rows L2

/-! ### slices -/
abbrev DO := Sd → Gp → (Option Int → Gp → Prop) → Prop
def upO (K : PySem.W.Frag) (t : DO) : TO := fun τ H Q => ∃ σ G N R, RSt K H N σ τ ∧ RelG K H N G ∧ t σ G R ∧ ∀ o G' N' H', R o G' → Stp K H N G H' N' G' → Q o H'
def QO (X : Cx) (e : Option Expr) (t : DO) : Prop := PO X e (upO X.K t)
def dNoPart : DO := fun _ G R => R none G
def dPart (t : DE) : DO := fun σ G R => t σ G fun x G1 => match x with | .int i => R (some i) G1 | _ => False
theorem po_mono {X : Cx} {e : Option Expr} {t t' : TO} (h : PO X e t) (i : ∀ τ H Q, t' τ H Q → t τ H Q) : PO X e t' := ⟨fun pins s σ H Q I q => h.run pins s σ H Q I (i σ H Q q)⟩
def cutL {α : Type} (xs : List α) (lo hi : Option Int) : List α := (xs.drop (HT.sIx xs.length 0 lo)).take (HT.sIx xs.length xs.length hi - HT.sIx xs.length 0 lo)
theorem RDs.cut {K : PySem.W.Frag} {H : Hp} {N : Ns} {ds : List D} {vs : List V} (r : RDs K H N ds vs) (lo hi : Option Int) : RDs K H N (cutL ds lo hi) (cutV vs lo hi) := by
  unfold cutL cutV
  rw [r.length]
  exact RDs.take _ (RDs.drop _ r)
theorem cut_whole {α : Type} {xs : List α} {lo hi : Option Int} (h : HT.sIx xs.length 0 lo = 0 ∧ HT.sIx xs.length xs.length hi = xs.length) : cutL xs lo hi = xs := by
  unfold cutL
  rw [h.1, h.2, List.drop_zero, Nat.sub_zero, List.take_length]
def dSl (mk : Bool) : D → Option Int → Option Int → Gp → DK → Prop := fun x lo hi G R => match x with
  | .str z => z.length ≤ sizeLine ∧ R (.str (cutS z lo hi)) G
  | .tup ds => R (.tup (cutL ds lo hi)) G
  | x => match lstOf G x with | some ds => newL mk (cutL ds lo hi) G R | none => False
def dSlice (mk : Bool) (te : DE) (tl th : DO) : DE := fun σ G R => te σ G fun x G1 => tl σ G1 fun l G2 => th σ G2 fun u G3 => dSl mk x l u G3 R
section
variable {X : Cx} {e : Expr} {te : DE} {pos : Pos}
theorem qo_none : QO X none dNoPart := po_mono po_none fun τ H Q h => by
  obtain ⟨σ, G, N, R, hs, hg, ht, q⟩ := h
  exact q _ _ _ _ ht (Stp.refl hg)
theorem qo_some (h : QE X e te) : QO X (some e) (dPart te) := po_mono (po_some h) fun τ H Q h => by
  obtain ⟨σ, G, N, R, hs, hg, ht, q⟩ := h
  refine ⟨σ, G, N, _, hs, hg, ht, fun d G1 N1 v1 H1 h1 s1 r1 => ?_⟩
  split at h1
  · exact ⟨_, r1.of_int, q _ _ _ _ h1 s1⟩
  · exact h1.elim
theorem qe_slice (mk : Bool) {lo hi : Option Expr} {tl th : DO} {p2 : Pos} (he : QE X e te) (hl : QO X lo tl) (hu : QO X hi th) : QE X (.Subscript e (.Slice lo hi none p2) pos) (dSlice mk te tl th) :=
  pe_mono (pe_slice (sl_str.or (sl_tupA.or sl_list)) he hl hu) fun τ H Q h => by
    obtain ⟨σ, G, N, R, hs, hg, ht, q⟩ := h
    refine ⟨σ, G, N, _, hs, hg, ht, fun d G1 N1 v1 H1 h1 s1 r1 => ?_⟩
    refine ⟨σ, G1, N1, _, hs.le s1.kp, s1.rel, h1, fun l G2 N2 H2 h2 s2 => ?_⟩
    refine ⟨σ, G2, N2, _, (hs.le s1.kp).le s2.kp, s2.rel, h2, fun u G3 N3 H3 h3 s3 => ?_⟩
    have s13 := (s1.trans s2).trans s3
    have r3 := (r1.le s2.kp).le s3.kp
    have q3 := q.le s13
    have rg := s3.rel
    unfold dSl at h3
    split at h3
    · obtain rfl := r3.of_str
      exact .inl ⟨_, rfl, h3.1, q3.at rg h3.2 (RD.str _)⟩
    · rename_i ds
      obtain ⟨p, vs, rfl, sq, r⟩ := r3.of_tup
      have hlen := r.length
      refine .inr (.inl ⟨p, vs, rfl, sq, fun hw => ?_, fun hw p np => ?_⟩)
      · rw [cut_whole (by rw [hlen]; exact hw)] at h3
        exact q3.at rg h3 (RD.tup sq r)
      · exact newT_ok rg (r.cut l u) h3 q3 np
    · split at h3
      · rename_i ds ed
        obtain ⟨p, vs, rfl, sq, r⟩ := lstOf_ok rg r3 ed
        exact .inr (.inr ⟨p, vs, rfl, sq, fun p np => newL_ok rg (r.cut l u) h3 q3 np⟩)
      · exact h3.elim
end
/-! ### t[::-1] -/
section
variable {prog : Program} {w : World} {A : Around} {E : Value → Shared → Prop} {s : Shared}
end
section
variable {X : Cx}
def dRev (mk : Bool) (te : DE) : DE := fun σ G R => te σ G fun x G1 => match x with
  | .tup ds => R (.tup ds.reverse) G1
  | x => match lstOf G1 x with | some ds => newL mk ds.reverse G1 R | none => False
/-! ### built-ins -/
theorem up_rn {f : Value} {r : DRn} {rv : List V → Hp → VK → Prop} (h : CallR X f rv) (i : ∀ cs G N R xs H Q, RDs X.K H N cs xs → RelG X.K H N G → r cs G R → UpQ X.K H N G R Q → rv xs H Q) : CallD X f r := callr_mono h fun xs H Q h => by
  obtain ⟨cs, G, N, R, r1, rg, h, q⟩ := h
  exact i cs G N R xs H Q r1 rg h q
def dLen : DRn := fun cs G R => match cs with
  | [.str z] => z.length ≤ sizeLine ∧ R (.int z.length) G
  | [x] => match seqOf G x with | some ds => R (.int ds.length) G | none => False
  | _ => False
theorem cd_len : CallD X (.builtin "len") dLen := up_rn (call_len_str.or call_len_seq) fun cs G N R xs H Q rd rg h q => by
  unfold dLen at h
  split at h
  · obtain ⟨v, r, rfl, r1, r2⟩ := rd.of_cons
    rw [r1.of_str, r2.of_nil]
    exact .inl ⟨_, rfl, h.1, q.at rg h.2 (RD.int _)⟩
  · obtain ⟨v, r, rfl, r1, r2⟩ := rd.of_cons
    rw [r2.of_nil]
    split at h
    · rename_i ds e
      obtain ⟨p, vs, rfl, s, r⟩ := seqOf_ok rg r1 e
      refine .inr ⟨p, vs, rfl, s, ?_⟩
      rw [← r.length]
      exact q.at rg h (RD.int _)
    · exact h.elim
  · exact h.elim
def blsOf : List D → Option (List Bool)
  | [] => some []
  | .bl b :: r => match blsOf r with | some bs => some (b :: bs) | none => none
  | _ => none
theorem blsOf_ok : ∀ {ds : List D} {bs : List Bool}, blsOf ds = some bs → ds = bs.map D.bl
  | [], _, h => by cases h; rfl
  | .bl b :: r, _, h => by
    unfold blsOf at h
    split at h
    · rename_i bs e
      cases h
      rw [blsOf_ok e]; rfl
    · cases h
  | .non :: r, _, h => by simp [blsOf] at h
  | .int _ :: r, _, h => by simp [blsOf] at h
  | .str _ :: r, _, h => by simp [blsOf] at h
  | .ty _ :: r, _, h => by simp [blsOf] at h
  | .ref _ :: r, _, h => by simp [blsOf] at h
  | .any _ :: r, _, h => by simp [blsOf] at h
  | .tup _ :: r, _, h => by simp [blsOf] at h
  | .lst _ :: r, _, h => by simp [blsOf] at h
theorem blsOf_map : ∀ bs : List Bool, blsOf (bs.map D.bl) = some bs
  | [] => rfl
  | b :: bs => by rw [List.map_cons]; unfold blsOf; rw [blsOf_map bs]
def dAll : DRn := fun cs G R => match cs with
  | [x] => match (lstOf G x).bind blsOf with | some bs => R (.bl (bs.all id)) G | none => False
  | _ => False
def dAny : DRn := fun cs G R => match cs with
  | [x] => match (lstOf G x).bind blsOf with | some bs => R (.bl (bs.any id)) G | none => False
  | _ => False
theorem bls_at {K : PySem.W.Frag} {H : Hp} {N : Ns} {G : Gp} {d : D} {v : V} {bs : List Bool} (rg : RelG K H N G) (rd : RD K H N d v) (h : (lstOf G d).bind blsOf = some bs) : ∃ p, v = .ref p ∧ SqL K H p (bs.map V.bl) := by
  cases e : lstOf G d with
  | none => rw [e] at h; cases h
  | some ds =>
    rw [e] at h
    obtain ⟨p, vs, rfl, s, r⟩ := lstOf_ok rg rd e
    have e2 := blsOf_ok (show blsOf ds = some bs from h)
    subst e2
    rw [r.of_bls] at s
    exact ⟨p, rfl, s⟩
theorem cd_all (hc : X.calm = true) : CallD X (.builtin "all") dAll := up_rn (cr_all hc) fun cs G N R xs H Q rd rg h q => by
  unfold dAll at h
  split at h
  · obtain ⟨v, r, rfl, r1, r2⟩ := rd.of_cons
    rw [r2.of_nil]
    split at h
    · rename_i bs e
      obtain ⟨p, rfl, s⟩ := bls_at rg r1 e
      exact ⟨p, bs, rfl, s, q.at rg h (RD.bl _)⟩
    · exact h.elim
  · exact h.elim
theorem cd_any (hc : X.calm = true) : CallD X (.builtin "any") dAny := up_rn (cr_any hc) fun cs G N R xs H Q rd rg h q => by
  unfold dAny at h
  split at h
  · obtain ⟨v, r, rfl, r1, r2⟩ := rd.of_cons
    rw [r2.of_nil]
    split at h
    · rename_i bs e
      obtain ⟨p, rfl, s⟩ := bls_at rg r1 e
      exact ⟨p, bs, rfl, s, q.at rg h (RD.bl _)⟩
    · exact h.elim
  · exact h.elim
def dMax2 : DRn := fun cs G R => match cs with | [.int i, .int j] => R (.int (if j > i then j else i)) G | _ => False
def dMin2 : DRn := fun cs G R => match cs with | [.int i, .int j] => R (.int (if j < i then j else i)) G | _ => False
theorem cd_min2 (hc : X.calm = true) : CallD X (.builtin "min") dMin2 := up_rn (call_min2 hc) fun cs G N R xs H Q rd rg h q => by
  unfold dMin2 at h
  split at h
  · obtain ⟨v, r, rfl, r1, r2⟩ := rd.of_cons
    obtain ⟨v', r', rfl, r3, r4⟩ := r2.of_cons
    rw [r4.of_nil, r1.of_int, r3.of_int]
    exact ⟨_, _, rfl, q.at rg h (RD.int _)⟩
  · exact h.elim
def dTuple : DRn := fun cs G R => match cs with | [x] => (match seqOf G x with | some ds => R (.tup ds) G | none => False) | _ => False
def dList (mk : Bool) : DRn := fun cs G R => match cs with | [x] => (match seqOf G x with | some ds => newL mk ds G R | none => False) | _ => False
theorem cd_tuple : CallD X (.type "tuple") dTuple := up_rn call_tuple_of fun cs G N R xs H Q rd rg h q => by
  unfold dTuple at h
  split at h
  · obtain ⟨v, r, rfl, r1, r2⟩ := rd.of_cons
    rw [r2.of_nil]
    split at h
    · rename_i ds e
      obtain ⟨p, vs, rfl, s, r⟩ := seqOf_ok rg r1 e
      refine ⟨p, vs, rfl, ?_⟩
      rcases s with s | s
      · exact .inl ⟨s, fun p np => newT_ok rg r h q np⟩
      · exact .inr ⟨s, q.at rg h (RD.tup s r)⟩
    · exact h.elim
  · exact h.elim
def dInt : DRn := fun cs G R => match cs with | [.int i] => R (.int i) G | [.bl b] => R (.int (if b then 1 else 0)) G | _ => False
theorem cd_int : CallD X (.type "int") dInt := up_rn call_int1 fun cs G N R xs H Q rd rg h q => by
  unfold dInt at h
  split at h
  · obtain ⟨v, r, rfl, r1, r2⟩ := rd.of_cons
    rw [r2.of_nil, r1.of_int]
    exact .inl ⟨_, rfl, q.at rg h (RD.int _)⟩
  · obtain ⟨v, r, rfl, r1, r2⟩ := rd.of_cons
    rw [r2.of_nil, r1.of_bl]
    exact .inr ⟨_, rfl, q.at rg h (RD.int _)⟩
  · exact h.elim
def dStrI : DRn := fun cs G R => match cs with | [.int i] => i.natAbs.log2 < 1920 ∧ R (.str (toString i)) G | _ => False
theorem cd_strI : CallD X (.type "str") dStrI := up_rn call_str_int fun cs G N R xs H Q rd rg h q => by
  unfold dStrI at h
  split at h
  · obtain ⟨v, r, rfl, r1, r2⟩ := rd.of_cons
    rw [r2.of_nil, r1.of_int]
    exact ⟨_, rfl, h.1, q.at rg h.2 (RD.str _)⟩
  · exact h.elim
/-- the type of data -/
def tyD (G : Gp) : D → Option String
  | .non => some "NoneType" | .bl _ => some "bool" | .int _ => some "int" | .str _ => some "str" | .tup _ => some "tuple" | .nt _ => some "tuple" | .lst _ => some "list"
  | .any n => if n = "list" ∨ n = "dict" then some n else none
  | .ref a => match G a with | some (.lst _) => some "list" | some (.dK _) => some "dict" | some (.dT _) => some "dict" | _ => none
  | _ => none
def isTy (t n : String) : Bool := t == n || (t == "bool" && n == "int")
def knownTy : List String := ["int", "bool", "str", "tuple", "list", "dict"]
def dIsi : DRn := fun cs G R => match cs with
  | [x, .ty n] => n ∈ knownTy ∧ (match tyD G x with | some t => R (.bl (isTy t n)) G | none => False)
  | _ => False
theorem kits : ∀ t ∈ ["NoneType", "bool", "int", "str", "tuple", "list", "dict"], ∀ n ∈ knownTy, kitB t n = some (isTy t n) := by decide +kernel
theorem knd_ty {K : PySem.W.Frag} {H : Hp} {a : Addr} {u : HO} {n : String} (h : H a = some u) (k : knd u = n) (d : n = "list" ∨ n = "dict") : TyX K H (.ref a) (.type n) := by
  subst k
  cases u with
  | lst _ => exact .base (.lst h)
  | dK _ => exact .base (.dK h)
  | dT _ => exact .base (.dT h)
  | frz o z =>
    cases z with
    | lst _ => exact .base (.frz h)
    | dK _ => exact .fDict h
    | _ => simp [knd] at d
  | _ => simp [knd] at d
theorem tyD_ok {K : PySem.W.Frag} {H : Hp} {N : Ns} {G : Gp} {d : D} {v : V} {t : String} (rg : RelG K H N G) (rd : RD K H N d v) (h : tyD G d = some t) : TyX K H v (.type t) ∧ t ∈ ["NoneType", "bool", "int", "str", "tuple", "list", "dict"] := by
  cases d with
  | non => cases h; rw [rd.of_non]; exact ⟨.base .non, by decide⟩
  | bl b => cases h; rw [rd.of_bl]; exact ⟨.base (.bl _), by decide⟩
  | int b => cases h; rw [rd.of_int]; exact ⟨.base (.int _), by decide⟩
  | str b => cases h; rw [rd.of_str]; exact ⟨.base (.str _), by decide⟩
  | ty b => cases h
  | nt zs =>
    cases h
    obtain ⟨p, rfl, s⟩ := rd.of_nt
    refine ⟨?_, by decide⟩
    rcases s with ⟨o, s, _⟩ | ⟨o, its, n, e, c, _⟩
    · exact .fTuple s
    · exact .kTuple e c
  | tup ds =>
    cases h
    obtain ⟨p, vs, rfl, s, r⟩ := rd.of_tup
    refine ⟨?_, by decide⟩
    rcases s with (s | ⟨o, s⟩) | ⟨o, its, n, e, c, _⟩
    · exact .base (.tup s)
    · exact .fTuple s
    · exact .kTuple e c
  | lst ds =>
    cases h
    obtain ⟨p, vs, rfl, s, r⟩ := rd.of_lst
    refine ⟨?_, by decide⟩
    rcases s with ⟨s, _⟩ | ⟨o, s⟩ | ⟨o, its, n, e, c, _⟩
    · exact .base (.lst s)
    · exact .base (.frz s)
    · exact .kList e c
  | any n =>
    obtain ⟨a, u, rfl, hu, k⟩ := rd.of_any
    unfold tyD at h
    simp only at h
    split at h
    · rename_i d
      cases h
      refine ⟨knd_ty hu k d, ?_⟩
      rcases d with d | d
      · subst d; decide
      · subst d; decide
    · cases h
  | ref a =>
    obtain rfl := rd.of_ref
    unfold tyD at h
    simp only at h
    split at h
    · rename_i ds e
      cases h
      obtain ⟨_, vs, hv, _⟩ := rg a _ e
      exact ⟨.base (.lst hv), by decide⟩
    · rename_i ds e
      cases h
      obtain ⟨_, vs, hv, _⟩ := rg a _ e
      exact ⟨.base (.dK hv), by decide⟩
    · rename_i ds e
      cases h
      obtain ⟨_, vs, hv, _⟩ := rg a _ e
      exact ⟨.base (.dT hv), by decide⟩
    · cases h
theorem cd_isi : CallD X (.builtin "isinstance") dIsi := up_rn call_isi fun cs G N R xs H Q rd rg h q => by
  unfold dIsi at h
  split at h
  · rename_i x n
    obtain ⟨hn, h⟩ := h
    obtain ⟨v, r, rfl, r1, r2⟩ := rd.of_cons
    obtain ⟨v', r', rfl, r3, r4⟩ := r2.of_cons
    rw [r4.of_nil, r3.of_ty]
    split at h
    · rename_i t et
      obtain ⟨ty, mt⟩ := tyD_ok rg r1 et
      exact ⟨v, _, .type t, .type n, isTy t n, rfl, .ty n, ty, kit_ty (kits t mt n hn), q.at rg h (RD.bl _)⟩
    · exact h.elim
  · exact h.elim
/-- a built-in type's name, as a value -/
theorem qe_ty {x : Str} {n : String} {pos : Pos} (hg : Gl X x) (hm : X.mg x = none) (hv : bootBuiltins x = some (.type n)) (hn : x ≠ "__name__" := by decide) (hd : (x == ("__debug__" : Str)) = false := by decide) : QE X (.Name x pos) (dC (.ty n)) :=
  pe_mono (pe_bltn hg hm hv (v := .ty n) rfl hn hd) fun _ _ _ h => up_c (fun _ _ => RD.ty n) h
/-! ### methods -/
def MtD (X : Cx) (id : String) (r : D → List D → Gp → DK → Prop) : Prop := MtR X id (upM X.K r)
theorem mtr_mono {id : String} {r r' : V → List V → Hp → VK → Prop} (h : MtR X id r) (i : ∀ x xs H Q, r' x xs H Q → r x xs H Q) : MtR X id r' := fun pins s σ H x xs v us Q I rx rxs q => h pins s σ H x xs v us Q I rx rxs (i x xs H Q q)
theorem md_of {id : String} {r : D → List D → Gp → DK → Prop} {rv : V → List V → Hp → VK → Prop} (h : MtR X id rv) (i : ∀ c cs G N R x xs H Q, RD X.K H N c x → RDs X.K H N cs xs → RelG X.K H N G → r c cs G R → UpQ X.K H N G R Q → rv x xs H Q) : MtD X id r := mtr_mono h fun x xs H Q h => by
  obtain ⟨c, cs, G, N, R, r0, r1, rg, h, q⟩ := h
  exact i c cs G N R x xs H Q r0 r1 rg h q
/-- the type of what has methods -/
def mty (G : Gp) : D → Option String
  | .str _ => some "str" | .lst _ => some "list"
  | .ref a => match G a with | some (.lst _) => some "list" | some (.dK _) => some "dict" | some (.dT _) => some "dict" | _ => none
  | _ => none
def dM (T : String) (r : D → List D → Gp → DK → Prop) (to : DE) (t : DA) : DE := fun σ G R => to σ G fun x G1 => mty G1 x = some T ∧ t σ G1 fun xs G2 => r x xs G2 R
def dM0 (T : String) (r : D → List D → Gp → DK → Prop) (to : DE) : DE := fun σ G R => to σ G fun x G1 => mty G1 x = some T ∧ r x [] G1 R
theorem tyV_of {K : PySem.W.Frag} {H : Hp} {N : Ns} {G : Gp} {d : D} {v : V} {T : String} (rg : RelG K H N G) (rd : RD K H N d v) (h : mty G d = some T) : tyV K T v H := by
  cases d with
  | str b => cases h; rw [rd.of_str]; rfl
  | lst ds =>
    cases h
    obtain ⟨p, vs, rfl, s, r⟩ := rd.of_lst
    exact .inl ⟨rfl, _, s.sq⟩
  | ref a =>
    obtain rfl := rd.of_ref
    unfold mty at h
    simp only at h
    split at h
    · rename_i ds e
      cases h
      obtain ⟨_, vs, hv, _⟩ := rg a _ e
      exact .inl ⟨rfl, _, SqL.of hv⟩
    · rename_i ds e
      cases h
      obtain ⟨_, vs, hv, _⟩ := rg a _ e
      exact .inr (.inr (.inl ⟨rfl, .inl ⟨_, hv⟩⟩))
    · rename_i ds e
      cases h
      obtain ⟨_, vs, hv, _⟩ := rg a _ e
      exact .inr (.inr (.inl ⟨rfl, .inr ⟨_, hv⟩⟩))
    · cases h
  | _ => cases h
variable {o e : Expr} {es : List Expr} {to : DE} {t : DA} {name : Str} {apos cpos : Pos} {T id : String} {r : D → List D → Gp → DK → Prop}
theorem qe_m0 (pa : PlainAttrs T) (slot : Slot T name id) (hty : typeOf (.builtin id) = pure (.type "method_descriptor")) (hm : MtD X id r) (ho : QE X o to)
    (hbase : attributeBase o name X.env (eval o X.env) = eval o X.env := by rfl) (hline : (apos.endLine == cpos.line) = true := by rfl) : QE X (.Call (.Attribute o name apos) [] [] cpos) (dM0 T r to) := pe_mono (pe_bm0 pa slot hty hm ho hbase hline) fun τ H Q h => by
  obtain ⟨σ, G, N, R, hs, hg, ht, q⟩ := h
  refine ⟨σ, G, N, _, hs, hg, ht, fun x G1 N1 v1 H1 h1 s1 r1 => ?_⟩
  exact ⟨tyV_of s1.rel r1 h1.1, x, [], G1, N1, R, r1, RDs.nil, s1.rel, h1.2, q.le s1⟩
theorem qe_m (pa : PlainAttrs T) (slot : Slot T name id) (hty : typeOf (.builtin id) = pure (.type "method_descriptor")) (hm : MtD X id r) (ho : QE X o to) (ha : QA X (e :: es) t)
    (hbase : attributeBase o name X.env (eval o X.env) = eval o X.env := by rfl)
    (hfew : ((backTo cpos (starEach (e :: es) X.env)).all (fun x => !x.1) && (backToKw cpos (keywordEach [] X.env)).all (fun x => x.1.isSome)
      && decide ((e :: es).length + ([] : List Keyword).length + (if ([] : List Keyword).isEmpty then 0 else 1) < 30)) = true := by rfl)
    (hline : (apos.endLine == cpos.line) = true := by rfl) (hs : starEach (e :: es) X.env = (false, eval e X.env) :: starEach es X.env := by rfl) (hplain : (backTo cpos (starEach es X.env)).any (·.1) = false := by rfl) :
    QE X (.Call (.Attribute o name apos) (e :: es) [] cpos) (dM T r to t) := pe_mono (pe_bm pa slot hty hm ho ha hbase hfew hline hs hplain) fun τ H Q h => by
  obtain ⟨σ, G, N, R, hs, hg, ht, q⟩ := h
  refine ⟨σ, G, N, _, hs, hg, ht, fun x G1 N1 v1 H1 h1 s1 r1 => ?_⟩
  refine ⟨tyV_of s1.rel r1 h1.1, σ, G1, N1, _, hs.le s1.kp, s1.rel, h1.2, fun xs G2 N2 vs H2 h2 s2 r2 => ?_⟩
  exact ⟨x, xs, G2, N2, R, r1.le s2.kp, r2, s2.rel, h2, q.le (s1.trans s2)⟩
/-- xs.append(y) -/
def dAppend : D → List D → Gp → DK → Prop := fun x xs G R => match x, xs with
  | .ref a, [y] => match G a with | some (.lst ds) => ds.length < sizeLine ∧ R .non (gup G a (.lst (ds ++ [y]))) | _ => False
  | _, _ => False
theorem md_append : MtD X "list.append" dAppend := md_of (rv := rAppend) (fun pins s σ H x xs v us Q I rx rxs q => mt_append pins s σ H x xs v us Q I rx rxs q) fun c cs G N R x xs H Q r0 r1 rg h q => by
  unfold dAppend at h
  split at h
  · rename_i a y
    obtain rfl := r0.of_ref
    obtain ⟨v, r, rfl, rv, rr⟩ := r1.of_cons
    rw [rr.of_nil]
    split at h
    · rename_i ds e
      obtain ⟨_, vs, hv, rd⟩ := rg a _ e
      have hl := rd.length
      refine ⟨a, vs, v, rfl, rfl, hv, by omega, ?_⟩
      refine q _ _ N _ _ h.2 (Stp.write (u := .lst (vs ++ [v])) rg e hv rfl rfl ⟨_, upd_same, ?_⟩) RD.non
      exact (rd.append (RDs.cons rv RDs.nil)).le (Kp.write (u := .lst (vs ++ [v])) (rg a _ e).1 hv rfl rfl)
    · exact h.elim
  · exact h.elim
def strsOf : List D → Option (List Str)
  | [] => some []
  | .str b :: r => match strsOf r with | some bs => some (b :: bs) | none => none
  | _ => none
theorem strsOf_ok : ∀ {ds : List D} {bs : List Str}, strsOf ds = some bs → ds = bs.map D.str
  | [], _, h => by cases h; rfl
  | .str b :: r, _, h => by
    unfold strsOf at h
    split at h
    · rename_i bs e
      cases h
      rw [strsOf_ok e]; rfl
    · cases h
  | .non :: r, _, h => by simp [strsOf] at h
  | .int _ :: r, _, h => by simp [strsOf] at h
  | .bl _ :: r, _, h => by simp [strsOf] at h
  | .ty _ :: r, _, h => by simp [strsOf] at h
  | .ref _ :: r, _, h => by simp [strsOf] at h
  | .any _ :: r, _, h => by simp [strsOf] at h
  | .tup _ :: r, _, h => by simp [strsOf] at h
  | .lst _ :: r, _, h => by simp [strsOf] at h
/-- sep.join(texts) -/
def dJoin : D → List D → Gp → DK → Prop := fun x xs G R => match x, xs with
  | .str a, [y] => match (seqOf G y).bind strsOf with | some ys => (ys.map (·.length)).sum + ys.length * a.length ≤ 16777216 ∧ R (.str (Txt.join a ys)) G | none => False
  | _, _ => False
theorem md_join : MtD X "str.join" dJoin := md_of mt_join fun c cs G N R x xs H Q r0 r1 rg h q => by
  unfold dJoin at h
  split at h
  · obtain rfl := r0.of_str
    obtain ⟨v, r, rfl, rv, rr⟩ := r1.of_cons
    rw [rr.of_nil]
    rename_i a0 y
    split at h
    · rename_i ys e
      cases e2 : seqOf G y with
      | none => rw [e2] at e; cases e
      | some ds =>
        rw [e2] at e
        obtain ⟨p, vs, rfl, s, rd⟩ := seqOf_ok rg rv e2
        have e3 := strsOf_ok (show strsOf ds = some ys from e)
        subst e3
        rw [rd.of_strs] at s
        exact ⟨_, p, ys, rfl, rfl, s, h.1, q.at rg h.2 (RD.str _)⟩
    · exact h.elim
  · exact h.elim
end
end DL

set_option Elab.async false
set_option linter.all false
set_option maxRecDepth 100000
set_option maxHeartbeats 4000000
set_option autoImplicit false
namespace DL
open PySem PySem.Spec PyProof.Rows L2
/-! ### sets of ints and texts, made of a list or a tuple -/
section
variable {κ : Type} [DecidableEq κ]
/-- each thing once, in the order of coming -/
def uniqStep (acc : List κ) (k : κ) : List κ := if k ∈ acc then acc else acc ++ [k]
def uniq (ks : List κ) : List κ := ks.foldl uniqStep []
end
instance keyLawful : LawfulBEq Key where
  eq_of_beq := fun {a b} h => by
    cases a with
    | inl i => cases b with
      | inl j => exact congrArg Sum.inl (eq_of_beq (show (i == j) = true from h))
      | inr j => exact absurd (show false = true from h) Bool.false_ne_true
    | inr i => cases b with
      | inl j => exact absurd (show false = true from h) Bool.false_ne_true
      | inr j => exact congrArg Sum.inr (eq_of_beq (show (i == j) = true from h))
  rfl := fun {a} => by
    cases a with
    | inl i => exact beq_self_eq_true i
    | inr i => exact beq_self_eq_true i
/-- values that are these keys -/
def KeysAre (us : List Value) (ks : List Key) : Prop := Paired (fun (k : Key) (u : Value) => keyIs k u = true) ks us
theorem KeysAre.len {us : List Value} {ks : List Key} (h : KeysAre us ks) : us.length = ks.length := (Paired.length h).symm
theorem KeysAre.get : ∀ {us : List Value} {ks : List Key} {i : Nat} {v : Value}, KeysAre us ks → us[i]? = some v → ∃ k, ks[i]? = some k ∧ keyIs k v = true
  | _, _, _, _, .nil, e => by simp at e
  | _, _, 0, _, .cons r _, e => by simp at e; subst e; exact ⟨_, rfl, r⟩
  | _, _, i + 1, v, .cons _ t, e => by
    obtain ⟨k, h1, h2⟩ := KeysAre.get (i := i) (v := v) t (by simpa using e)
    exact ⟨k, by simpa using h1, h2⟩
section
variable {prog : Program} {w : World} {A : Around} {R : Result → Shared → Prop} {I : Addr} {fp wr : List Addr} {G : Array GenState → Array GenState → Prop} {n : Nat} {P : Nat → Value → Prop} {St : Nat → Shared → Prop}
end
section
variable {prog : Program} {w : World} {A : Around} {E : Value → Shared → Prop} {s : Shared}
end
end DL

set_option Elab.async false
set_option linter.all false
set_option maxRecDepth 100000
set_option maxHeartbeats 4000000
set_option autoImplicit false
namespace DL
open PySem PySem.Spec PyProof.Rows L2
/-! ### len(set(xs)) -/
def keyD : D → Option Key
  | .int i => some (.inl i) | .str x => some (.inr x) | _ => none
def keysD : List D → Option (List Key)
  | [] => some []
  | d :: ds => match keyD d, keysD ds with | some k, some ks => some (k :: ks) | _, _ => none
section
variable {X : Cx}
def dLenSet (te : DE) : DE := fun σ G R => te σ G fun x G1 => match (seqOf G1 x).bind keysD with | some ks => ks.length + 1 < scanBound ∧ R (.int (uniq ks).length) G1 | none => False
/-! ### what is walked -/
def iSeq (K : PySem.W.Frag) (tl : TE) : TI := fun σ H R => tl σ H fun x H1 => (∃ a, x = .ref a ∧ (∃ xs, SqL K H1 a xs) ∧ R (Itl K a) H1) ∨ (∃ a, x = .ref a ∧ (∃ xs, SqT K H1 a xs) ∧ R (Itt K a) H1) ∨ ∃ z, x = .str z ∧ R (Its z) H1
theorem pi_seq {tg l : Expr} {tl : TE} (hl : PE X l tl) : PI X tg l (iSeq X.K tl) := by
  refine ⟨fun pins s σ H R I h => thn (hl.run pins s σ H _ I h) fun v s1 ⟨x, H1, I1, r1, q1⟩ => ?_⟩
  rcases q1 with ⟨a, e, ⟨xs, hq⟩, q⟩ | ⟨a, e, ⟨xs, hq⟩, q⟩ | ⟨z, e, q⟩
  · subst e
    have hp : PE X l (fun _ _ Q => True) → True := fun _ => True.intro
    cases r1
    obtain ⟨its, rv, p, hz⟩ := I1.list hq
    exact wpAny_pyIter_list p.isList (pi_one (tk := s1.toks) I1 _ (turn_list a _) ⟨_, Heap.get?_push_size _ rfl, rfl, rfl⟩ q)
  · subst e
    cases r1
    obtain ⟨its, rv, p, hz⟩ := I1.tuple hq
    exact wpAny_pyIter_tuple (show s1.heap.IsTuple a its.toArray from p) (pi_one (tk := s1.toks) I1 _ (turn_tuple a _) ⟨_, Heap.get?_push_size _ rfl, rfl, rfl⟩ q)
  · subst e
    obtain ⟨t, rfl⟩ := r1
    cases ha : z.cps.all (· < 128)
    · exact wpAny_pyIter_wide ha (pi_one (tk := s1.toks) I1 _ (turn_str _ z t "str_iterator" (.inr rfl)) ⟨_, Heap.get?_push_size _ rfl, rfl, rfl⟩ q)
    · exact wpAny_pyIter_ascii ha (pi_one (tk := s1.toks) I1 _ (turn_str _ z t "str_ascii_iterator" (.inl rfl)) ⟨_, Heap.get?_push_size _ rfl, rfl, rfl⟩ q)
/-- a text's signsD -/
def signsD (z : Str) : List D := z.cps.toList.map fun c => .str ⟨#[c]⟩
def dIter (te : DE) : DI := fun σ G R => te σ G fun x G1 => match x with
  | .tup ds => R ds (fun _ => True) G1
  | .nt zs => R (zs.map .str) (fun _ => True) G1
  | .lst ds => R ds (fun _ => True) G1
  | .str z => R (signsD z) (fun _ => True) G1
  | .ref a => match G1 a with | some (.lst ds) => R ds (fun G => G a = some (.lst ds)) G1 | _ => False
  | _ => False
theorem yl_list {K : PySem.W.Frag} {H0 : Hp} {N0 : Ns} {G0 : Gp} {a : Addr} {ds : List D} {gd : Gp → Prop} (h : ∀ H N G, Stp K H0 N0 G0 H N G → gd G → ∃ vs, SqL K H a vs ∧ RDs K H N ds vs) : Yl K (Itl K a) H0 N0 G0 ds gd := by
  refine Yl.of (fun i H N G d s g e => ?_) (fun i H N G s g e => ?_)
  · obtain ⟨vs, sq, r⟩ := h H N G s g
    obtain ⟨v, hv, rv⟩ := r.get e
    refine ⟨⟨vs, v, sq, hv⟩, fun x H' y => ?_⟩
    obtain ⟨rfl, y⟩ := y
    have e2 := y vs sq
    rw [hv] at e2; cases e2
    exact ⟨Stp.refl s.rel, rv⟩
  · obtain ⟨vs, sq, r⟩ := h H N G s g
    exact ⟨vs, sq, by rw [← r.length]; exact e⟩
theorem yl_tup {K : PySem.W.Frag} {H0 : Hp} {N0 : Ns} {G0 : Gp} {a : Addr} {ds : List D} {vs : List V} (sq : SqT K H0 a vs) (r : RDs K H0 N0 ds vs) : Yl K (Itt K a) H0 N0 G0 ds fun _ => True := by
  refine Yl.of (fun i H N G d s g e => ?_) (fun i H N G s g e => ?_)
  · obtain ⟨v, hv, rv⟩ := (r.le s.kp).get e
    have sq' := SqT.le s.kp.kle sq
    refine ⟨⟨vs, v, sq', hv⟩, fun x H' y => ?_⟩
    obtain ⟨rfl, y⟩ := y
    have e2 := y vs sq'
    rw [hv] at e2; cases e2
    exact ⟨Stp.refl s.rel, rv⟩
  · exact ⟨vs, SqT.le s.kp.kle sq, by rw [← r.length]; exact e⟩
theorem yl_str {K : PySem.W.Frag} {H0 : Hp} {N0 : Ns} {G0 : Gp} {z : Str} : Yl K (Its z) H0 N0 G0 (signsD z) fun _ => True := by
  refine Yl.of (fun i H N G d s g e => ?_) (fun i H N G s g e => ?_)
  · unfold signsD at e
    rw [List.getElem?_map] at e
    cases ec : z.cps.toList[i]? with
    | none => rw [ec] at e; cases e
    | some c =>
      rw [ec] at e
      cases e
      have ec' : z.cps[i]? = some c := by rw [← Array.getElem?_toList]; exact ec
      refine ⟨(Array.getElem?_eq_some_iff.mp ec').1, fun x H' y => ?_⟩
      obtain ⟨rfl, c', e', rfl⟩ := y
      rw [ec'] at e'; cases e'
      exact ⟨Stp.refl s.rel, RD.str _⟩
  · unfold signsD at e
    rw [List.length_map, Array.length_toList] at e
    exact e
theorem qi_seq {tg l : Expr} {te : DE} (hl : QE X l te) : QI X tg l (dIter te) := pi_mono (pi_seq hl) fun τ H Q h => by
  obtain ⟨σ, G, N, R, hs, hg, ht, q⟩ := h
  refine ⟨σ, G, N, _, hs, hg, ht, fun x G1 N1 v1 H1 h1 s1 r1 => ?_⟩
  split at h1
  · obtain ⟨p, vs, rfl, sq, r⟩ := r1.of_tup
    exact .inr (.inl ⟨p, rfl, ⟨vs, sq⟩, q _ _ _ _ _ _ h1 s1 (yl_tup sq r)⟩)
  · obtain ⟨p, vs, rfl, sq, r⟩ := r1.nt_tup.of_tup
    exact .inr (.inl ⟨p, rfl, ⟨vs, sq⟩, q _ _ _ _ _ _ h1 s1 (yl_tup sq r)⟩)
  · obtain ⟨p, vs, rfl, sq, r⟩ := r1.of_lst
    exact .inl ⟨p, rfl, ⟨vs, sq.sq⟩, q _ _ _ _ _ _ h1 s1 (yl_list fun H N G s _ => ⟨vs, (sq.le s.kp).sq, r.le s.kp⟩)⟩
  · obtain rfl := r1.of_str
    exact .inr (.inr ⟨_, rfl, q _ _ _ _ _ _ h1 s1 yl_str⟩)
  · obtain rfl := r1.of_ref
    split at h1
    · rename_i ds e
      obtain ⟨_, vs, hv, r⟩ := s1.rel _ _ e
      exact .inl ⟨_, rfl, ⟨vs, SqL.of hv⟩, q _ _ _ _ _ _ h1 s1 (yl_list fun H N G s g => by
        obtain ⟨_, vs, hv, r⟩ := s.rel _ _ g
        exact ⟨vs, SqL.of hv, r⟩)⟩
    · exact h1.elim
  · exact h1.elim
/-- range(n) -/
def rng (lo : Int) (n : Nat) : List D := (List.range n).map fun i => .int (lo + (i : Nat))
theorem rng_length (lo : Int) (n : Nat) : (rng lo n).length = n := by unfold rng; rw [List.length_map, List.length_range]
theorem yl_rng {K : PySem.W.Frag} {H0 : Hp} {N0 : Ns} {G0 : Gp} {lo : Int} {n : Nat} : Yl K (Itr lo n) H0 N0 G0 (rng lo n) fun _ => True := by
  refine Yl.of (fun i H N G d s g e => ?_) (fun i H N G s g e => ?_)
  · have hi : i < n := by
      have := (List.getElem?_eq_some_iff.mp e).1
      rwa [rng_length] at this
    unfold rng at e
    rw [List.getElem?_map, List.getElem?_range hi] at e
    cases e
    refine ⟨hi, fun x H' y => ?_⟩
    obtain ⟨rfl, rfl⟩ := y
    exact ⟨Stp.refl s.rel, RD.int _⟩
  · rw [rng_length] at e; exact e
def dRng1 (ta : DA) : DI := fun σ G R => ta σ G fun ds G1 => match ds with | [.int j] => -(2 ^ 62) ≤ j ∧ j < 2 ^ 62 ∧ R (rng 0 j.toNat) (fun _ => True) G1 | _ => False
theorem qi_range1 {tg a : Expr} {ta : DA} {p pos : Pos} (hg : Gl X "range") (hm : X.mg "range" = none) (ha : QA X [a] ta) (hs : starEach [a] X.env = [(false, eval a X.env)] := by rfl) : QI X tg (.Call (.Name "range" p) [a] [] pos) (dRng1 ta) := pi_mono (pi_range1 hg hm ha hs) fun τ H Q h => by
  obtain ⟨σ, G, N, R, hs, hg, ht, q⟩ := h
  refine ⟨σ, G, N, _, hs, hg, ht, fun ds G1 N1 vs H1 h1 s1 r1 => ?_⟩
  split at h1
  · rename_i j
    obtain ⟨v, r, rfl, r2, r3⟩ := r1.of_cons
    rw [r3.of_nil, r2.of_int]
    exact ⟨j, rfl, h1.1, h1.2.1, q _ _ _ _ _ _ h1.2.2 s1 yl_rng⟩
  · exact h1.elim
/-- enumerate(list) -/
def enumD (lo : Int) : List D → List D
  | [] => []
  | d :: ds => .tup [.int lo, d] :: enumD (lo + 1) ds
def dEnum (ta : DA) : DI := fun σ G R => ta σ G fun ds G1 => match ds with
  | [.lst xs] => R (enumD 0 xs) (fun _ => True) G1
  | [.ref a] => (match G1 a with | some (.lst xs) => R (enumD 0 xs) (fun G => G a = some (.lst xs)) G1 | _ => False)
  | _ => False
/-! ### f(k = v, ..) -/
variable {k : Nat} {f : Addr} {fd : FuncData} {ps ks : List Str} {sp : DSp} {x : Str} {p pos : Pos} {kws : List Keyword} {tk : DA}
/-- by names alone: the promise is asked at the values in the parameters' order (g) -/
def dCallK (sp : DSp) (g : List D → List D) (n : Nat) (tk : DA) : DE := fun σ G R => tk σ G fun ds G1 => ds.length = n ∧ sp (g ds) G1 R
end
end DL

set_option Elab.async false
set_option linter.all false
set_option maxRecDepth 100000
set_option maxHeartbeats 4000000
set_option autoImplicit false
namespace DL
open PySem PySem.Spec PyProof.Rows L2
section
variable {X : Cx}
end
end DL

set_option Elab.async false
set_option linter.all false
set_option maxRecDepth 100000
set_option maxHeartbeats 4000000
set_option autoImplicit false
namespace DL
open PySem PySem.Spec PyProof.Rows L2
/-! ### readings -/
theorem at_K {K : PySem.W.Frag} {h : Heap} (_ : K.In h) (Q : PySem.W.Frag → Prop) (q : Q K) : Q K := q
theorem ret_same {R : DK} {d : D} {G : Gp} (h : R d G) : ∃ d' G', Wk G d d' G' ∧ R d' G' := ⟨d, G, .same (Sub.refl G), h⟩
theorem ret_sub {R : DK} {d : D} {G G0 : Gp} (s : Sub G0 G) (h : R d G0) : ∃ d' G', Wk G d d' G' ∧ R d' G' := ⟨d, G0, .same s, h⟩
theorem ret_lst {R : DK} {p : Addr} {ds : List D} {G G0 : Gp} (e : G p = some (.lst ds)) (s : Sub G0 G) (n : G0 p = none) (h : R (.lst ds) G0) : ∃ d' G', Wk G (.ref p) d' G' ∧ R d' G' := ⟨_, G0, .lst e s n, h⟩
theorem fnd_never {P : Program} {w : World} {K : PySem.W.Frag} {mg : Str → Option Value} {base : Heap} {k : Nat} {f : Addr} {fd : FuncData} {ps : List Str} : FnD P w K mg base k f fd ps (fun _ _ _ => False) :=
  ⟨fun vs H Q E h => by obtain ⟨_, _, _, _, _, _, h, _⟩ := h; exact h.elim, fun A outer s H args us vs Q E _ _ _ _ h => by obtain ⟨_, _, _, _, _, _, h, _⟩ := h; exact h.elim⟩
theorem gup_comm {G : Gp} {a b : Addr} {o u : GO} (h : a ≠ b) : gup (gup G a o) b u = gup (gup G b u) a o := by
  funext c; unfold gup
  by_cases e1 : c = b
  · by_cases e2 : c = a
    · exact absurd (e2.symm.trans e1) h
    · rw [if_pos e1, if_neg e2, if_pos e1]
  · by_cases e2 : c = a
    · rw [if_neg e1, if_pos e2, if_pos e2]
    · rw [if_neg e1, if_neg e2, if_neg e2, if_neg e1]
/-! ### plain data -/
def isStr : D → Bool | .str _ => true | _ => false
/-! ### == of data -/
mutual
def pyD : D → Bool
  | .non => true | .bl _ => true | .int _ => true | .str z => z.cps.toList.all fun c => decide (c < 1114112)
  | .tup ds => pyDs ds
  | .lst ds => pyDs ds
  | _ => false
def pyDs : List D → Bool
  | [] => true
  | d :: ds => pyD d && pyDs ds
end
mutual
def depD : D → Nat
  | .tup ds => depDs ds + 1
  | .lst ds => depDs ds + 1
  | _ => 0
def depDs : List D → Nat
  | [] => 0
  | d :: ds => max (depD d) (depDs ds)
end
mutual
def eqD : D → D → Bool
  | .non, .non => true
  | .bl a, .bl b => a == b
  | .bl a, .int j => (if a then 1 else 0) == j
  | .int i, .bl b => i == (if b then 1 else 0)
  | .int i, .int j => i == j
  | .str x, .str y => x == y
  | .tup xs, .tup ys => eqDs xs ys
  | .lst xs, .lst ys => eqDs xs ys
  | _, _ => false
def eqDs : List D → List D → Bool
  | [], [] => true
  | x :: xs, y :: ys => eqD x y && eqDs xs ys
  | _, _ => false
end
mutual
theorem toPy_pure : ∀ {d : D}, pyD d = true → ∃ a, toPy d = some a ∧ a.canLay0 = true ∧ a.depth = depD d
  | .non, _ => ⟨.none, by simp only [toPy], by simp [PyData.canLay0], by simp [PyData.depth, depD]⟩
  | .bl b, _ => ⟨.bool b, by simp only [toPy], by simp [PyData.canLay0], by simp [PyData.depth, depD]⟩
  | .int i, _ => ⟨.int i, by simp only [toPy], by simp [PyData.canLay0], by simp [PyData.depth, depD]⟩
  | .str z, h => ⟨.str z, by simp only [toPy], by
      simp only [pyD] at h
      simp only [PyData.canLay0, PyData.strOk]
      rw [← Array.all_toList]
      exact h, by simp [PyData.depth, depD]⟩
  | .tup ds, h => by
    simp only [pyD] at h
    obtain ⟨as, h1, h2, h3⟩ := toPys_pure h
    exact ⟨.tuple as, by simp only [toPy, h1, Option.map_some], by simpa [PyData.canLay0] using h2, by simp only [PyData.depth, depD, h3]⟩
  | .lst ds, h => by
    simp only [pyD] at h
    obtain ⟨as, h1, h2, h3⟩ := toPys_pure h
    exact ⟨.list as, by simp only [toPy, h1, Option.map_some], by simpa [PyData.canLay0] using h2, by simp only [PyData.depth, depD, h3]⟩
  | .ty _, h => by simp [pyD] at h
  | .ref _, h => by simp [pyD] at h
  | .any _, h => by simp [pyD] at h
theorem toPys_pure : ∀ {ds : List D}, pyDs ds = true → ∃ as, toPys ds = some as ∧ PyData.canLayAll0 as = true ∧ PyData.depthAll as = depDs ds
  | [], _ => ⟨[], by simp only [toPys], by simp [PyData.canLayAll0], by simp [PyData.depthAll, depDs]⟩
  | d :: ds, h => by
    simp only [pyDs, Bool.and_eq_true] at h
    obtain ⟨a, h1, h2, h3⟩ := toPy_pure h.1
    obtain ⟨as, h4, h5, h6⟩ := toPys_pure h.2
    exact ⟨a :: as, by simp only [toPys, h1, h4], by simp [PyData.canLayAll0, h2, h5], by simp only [PyData.depthAll, depDs, h3, h6]⟩
end
def ShapeOf (c : D) (a : PyData) : Prop := match c with
  | .non => a = .none | .bl b => a = .bool b | .int i => a = .int i | .str z => a = .str z
  | .tup ds => ∃ as, a = .tuple as ∧ toPys ds = some as
  | .lst ds => ∃ as, a = .list as ∧ toPys ds = some as
  | _ => False
theorem toPy_shape {c : D} {a : PyData} (h : toPy c = some a) : ShapeOf c a := by
  cases c with
  | tup ds =>
    simp only [toPy] at h
    cases e1 : toPys ds with
    | none => rw [e1] at h; cases h
    | some as => rw [e1] at h; cases h; exact ⟨as, rfl, e1⟩
  | lst ds =>
    simp only [toPy] at h
    cases e1 : toPys ds with
    | none => rw [e1] at h; cases h
    | some as => rw [e1] at h; cases h; exact ⟨as, rfl, e1⟩
  | _ => simp only [toPy] at h <;> first | (cases h; done) | (cases h; rfl)
mutual
theorem eqv_eqD : ∀ {c d : D} {a b : PyData}, toPy c = some a → toPy d = some b → PyData.eqv a b = eqD c d
  | .tup xs, .tup ys, a, b, h1, h2 => by
    obtain ⟨as, rfl, e1⟩ := toPy_shape h1
    obtain ⟨bs, rfl, e2⟩ := toPy_shape h2
    simp only [PyData.eqv, eqD]
    exact eqv_eqDs e1 e2
  | .lst xs, .lst ys, a, b, h1, h2 => by
    obtain ⟨as, rfl, e1⟩ := toPy_shape h1
    obtain ⟨bs, rfl, e2⟩ := toPy_shape h2
    simp only [PyData.eqv, eqD]
    exact eqv_eqDs e1 e2
  | .tup xs, .lst ys, a, b, h1, h2 => by
    obtain ⟨as, rfl, e1⟩ := toPy_shape h1
    obtain ⟨bs, rfl, e2⟩ := toPy_shape h2
    simp only [PyData.eqv, eqD]
  | .lst xs, .tup ys, a, b, h1, h2 => by
    obtain ⟨as, rfl, e1⟩ := toPy_shape h1
    obtain ⟨bs, rfl, e2⟩ := toPy_shape h2
    simp only [PyData.eqv, eqD]
  | .tup xs, .non, a, b, h1, h2 | .tup xs, .bl _, a, b, h1, h2 | .tup xs, .int _, a, b, h1, h2 | .tup xs, .str _, a, b, h1, h2
  | .lst xs, .non, a, b, h1, h2 | .lst xs, .bl _, a, b, h1, h2 | .lst xs, .int _, a, b, h1, h2 | .lst xs, .str _, a, b, h1, h2 => by
    obtain ⟨as, rfl, e1⟩ := toPy_shape h1
    have s2 := toPy_shape h2
    simp only [ShapeOf] at s2
    subst s2
    simp only [PyData.eqv, eqD]
  | .non, .tup ys, a, b, h1, h2 | .bl _, .tup ys, a, b, h1, h2 | .int _, .tup ys, a, b, h1, h2 | .str _, .tup ys, a, b, h1, h2
  | .non, .lst ys, a, b, h1, h2 | .bl _, .lst ys, a, b, h1, h2 | .int _, .lst ys, a, b, h1, h2 | .str _, .lst ys, a, b, h1, h2 => by
    obtain ⟨bs, rfl, e1⟩ := toPy_shape h2
    have s1 := toPy_shape h1
    simp only [ShapeOf] at s1
    subst s1
    simp only [PyData.eqv, eqD]
  | .ty _, _, a, b, h1, h2 | .ref _, _, a, b, h1, h2 | .any _, _, a, b, h1, h2 => (toPy_shape h1).elim
  | _, .ty _, a, b, h1, h2 | _, .ref _, a, b, h1, h2 | _, .any _, a, b, h1, h2 => (toPy_shape h2).elim
  | .non, .non, a, b, h1, h2 | .non, .bl _, a, b, h1, h2 | .non, .int _, a, b, h1, h2 | .non, .str _, a, b, h1, h2
  | .bl _, .non, a, b, h1, h2 | .bl _, .bl _, a, b, h1, h2 | .bl _, .int _, a, b, h1, h2 | .bl _, .str _, a, b, h1, h2
  | .int _, .non, a, b, h1, h2 | .int _, .bl _, a, b, h1, h2 | .int _, .int _, a, b, h1, h2 | .int _, .str _, a, b, h1, h2
  | .str _, .non, a, b, h1, h2 | .str _, .bl _, a, b, h1, h2 | .str _, .int _, a, b, h1, h2 | .str _, .str _, a, b, h1, h2 => by
    have s1 := toPy_shape h1
    have s2 := toPy_shape h2
    simp only [ShapeOf] at s1 s2
    subst s1 s2
    simp only [PyData.eqv, eqD]
theorem eqv_eqDs : ∀ {cs ds : List D} {as bs : List PyData}, toPys cs = some as → toPys ds = some bs → PyData.eqvAll as bs = eqDs cs ds
  | [], [], _, _, h1, h2 => by simp only [toPys] at h1 h2; cases h1; cases h2; simp only [PyData.eqvAll, eqDs]
  | [], d :: ds, _, _, h1, h2 => by
    simp only [toPys] at h1 h2
    split at h2
    · cases h1; cases h2; simp only [PyData.eqvAll, eqDs]
    · cases h2
  | c :: cs, [], _, _, h1, h2 => by
    simp only [toPys] at h1 h2
    split at h1
    · cases h1; cases h2; simp only [PyData.eqvAll, eqDs]
    · cases h1
  | c :: cs, d :: ds, _, _, h1, h2 => by
    simp only [toPys] at h1 h2
    split at h1
    · split at h2
      · rename_i a as e1 e2 _ _ b bs e3 e4
        cases h1; cases h2
        simp only [PyData.eqvAll, eqDs, eqv_eqD e1 e3, eqv_eqDs e2 e4]
      · cases h2
    · cases h1
end
theorem gPy_pure {G : Gp} {d : D} (h : pyD d = true) : gPy G d = toPy d := by
  cases d with
  | ref a => simp [pyD] at h
  | _ => rfl
theorem eqD_scal_int (i j : Int) : eqD (.int i) (.int j) = decide (i = j) := by simp only [eqD]; rw [Bool.eq_iff_iff]; simp
theorem eqD_scal_str (i j : Str) : eqD (.str i) (.str j) = decide (i = j) := by simp only [eqD]; rw [Bool.eq_iff_iff]; simp
theorem eqD_scal_bl (i j : Bool) : eqD (.bl i) (.bl j) = decide (i = j) := by simp only [eqD]; rw [Bool.eq_iff_iff]; simp
theorem eqW_pure {f : Bool → Bool} {c d : D} {G : Gp} {R : DK} (hc : pyD c = true) (hd : pyD d = true) (lc : depD c ≤ 64) (ld : depD d ≤ 64) : dEqW f c d G R ↔ R (.bl (f (eqD c d))) G := by
  unfold dEqW
  split
  · rw [eqD_scal_int]
  · rw [eqD_scal_str]
  · rw [eqD_scal_bl]
  · simp only [eqD]
  · obtain ⟨a, h1, h2, h3⟩ := toPy_pure hc
    obtain ⟨b, h4, h5, h6⟩ := toPy_pure hd
    rw [gPy_pure hc, gPy_pure hd, h1, h4]
    simp only [eqv_eqD h1 h4]
    have s1 : SeqAt.shaped a = true := by unfold SeqAt.shaped; rw [h2, h3, decide_eq_true lc]; rfl
    have s2 : SeqAt.shaped b = true := by unfold SeqAt.shaped; rw [h5, h6, decide_eq_true ld]; rfl
    exact ⟨fun z => z.2.2, fun z => ⟨s1, s2, z⟩⟩
theorem eq_pure {c d : D} {G : Gp} {R : DK} (hc : pyD c = true) (hd : pyD d = true) (lc : depD c ≤ 64) (ld : depD d ≤ 64) : dEq c d G R ↔ R (.bl (eqD c d)) G := eqW_pure hc hd lc ld
theorem ne_pure {c d : D} {G : Gp} {R : DK} (hc : pyD c = true) (hd : pyD d = true) (lc : depD c ≤ 64) (ld : depD d ≤ 64) : dNe c d G R ↔ R (.bl (!eqD c d)) G := eqW_pure hc hd lc ld
theorem small_line {n : Nat} (h : n ≤ 1000) : n ≤ sizeLine := Nat.le_of_lt (small1000 h)
theorem len_tup {ds : List D} {G : Gp} {R : DK} : dLen [.tup ds] G R ↔ R (.int ds.length) G := by unfold dLen; simp only [seqOf]
theorem len_lst {ds : List D} {G : Gp} {R : DK} : dLen [.lst ds] G R ↔ R (.int ds.length) G := by unfold dLen; simp only [seqOf, lstOf]
theorem all_lst {bs : List Bool} {G : Gp} {R : DK} : dAll [.lst (bs.map D.bl)] G R ↔ R (.bl (bs.all id)) G := by
  unfold dAll
  simp only [lstOf, Option.bind_some, blsOf_map]
theorem any_lst {bs : List Bool} {G : Gp} {R : DK} : dAny [.lst (bs.map D.bl)] G R ↔ R (.bl (bs.any id)) G := by
  unfold dAny
  simp only [lstOf, Option.bind_some, blsOf_map]
/-! ### cuts and loops -/
theorem seq_cut {t u : DS} {E : DEnds} {σ : Sd} {G : Gp} (M : Sd → Gp → Prop) (h1 : ∀ σ' G', M σ' G' → u E σ' G') (h2 : ∀ N : Sd → Gp → Prop, (∀ σ' G', M σ' G' → N σ' G') → t { E with nx := N } σ G) : dSeq t u E σ G := h2 (u E) h1
theorem wh_go {c : DT} {tb : DS} {E : DEnds} (I : Nat → Sd → Gp → Prop)
    (turn : ∀ n σ G, I n σ G → ∀ N : Sd → Gp → Prop, (∀ k σ' G', n = k + 1 → I k σ' G' → N σ' G') → c σ G fun b G1 => match b with | true => tb { E with nx := N, ct := N, bk := E.nx } σ G1 | false => E.nx σ G1) :
    ∀ (n : Nat) (σ : Sd) (G : Gp), I n σ G → dWhN c tb E (n + 1) σ G
  | 0, σ, G, h => turn 0 σ G h _ fun k _ _ e => by omega
  | n + 1, σ, G, h => turn (n + 1) σ G h _ fun k σ' G' e i => by
    have : k = n := by omega
    subst this
    exact wh_go I turn k σ' G' i
theorem gup_self {G : Gp} {a : Addr} {o : GO} (h : G a = some o) : gup G a o = G := by
  funext b; unfold gup
  split
  · rename_i e; rw [e, h]
  · rfl
/-! ### texts by their signs' numbers -/
abbrev cds (z : Str) : List Nat := z.cps.toList
theorem cds_len (z : Str) : (cds z).length = z.length := Array.length_toList
theorem cds_app (a b : Str) : cds (a ++ b) = cds a ++ cds b := by show (a.cps ++ b.cps).toList = _; simp
theorem nodup_sub {α : Type} : ∀ {l1 l2 : List α}, l1.Nodup → (∀ x ∈ l1, x ∈ l2) → l1.length ≤ l2.length
  | [], _, _, _ => Nat.zero_le _
  | a :: l1, l2, hn, hs => by
    obtain ⟨s, t, rfl⟩ := List.append_of_mem (hs a List.mem_cons_self)
    have hn2 := List.nodup_cons.mp hn
    have := nodup_sub (l1 := l1) (l2 := s ++ t) hn2.2 fun x hx => by
      have := hs x (List.mem_cons_of_mem _ hx)
      simp only [List.mem_append, List.mem_cons] at this ⊢
      rcases this with h | h | h
      · exact .inl h
      · subst h; exact absurd hx hn2.1
      · exact .inr h
    simp only [List.length_append, List.length_cons] at this ⊢
    omega
/-! ### operators at what is known -/
section
variable {mk : Bool} {i j : Int} {a b : Str} {x y : Bool} {as bs : List D} {d : D} {G : Gp} {R : DK}
theorem dAdd_ii : dAdd mk (.int i) (.int j) G R = R (.int (i + j)) G := rfl
theorem dAdd_ss : dAdd mk (.str a) (.str b) G R = (a.length + b.length ≤ sizeLine ∧ R (.str (a ++ b)) G) := rfl
theorem dAdd_tt : dAdd mk (.tup as) (.tup bs) G R = (as.length + bs.length ≤ sizeLine ∧ R (.tup (as ++ bs)) G) := rfl
theorem dAdd_ll : dAdd mk (.lst as) (.lst bs) G R = (as.length + bs.length ≤ sizeLine ∧ newL mk (as ++ bs) G R) := rfl
theorem dMinus_ii : dMinus (.int i) (.int j) G R = R (.int (i - j)) G := rfl
theorem dMul_ii : dMul (.int i) (.int j) G R = (IntMulOk i j ∧ R (.int (i * j)) G) := rfl
theorem dMod_ii : dMod (.int i) (.int j) G R = (0 < j ∧ R (.int (i % j)) G) := rfl
theorem dFdiv_ii : dFdiv (.int i) (.int j) G R = (CDivW i j ∧ R (.int (i / j)) G) := rfl
theorem dPow_ii : dPow (.int i) (.int j) G R = (CPowX i j ∧ R (.int (i ^ j.toNat)) G) := rfl
theorem dShl_ii : dShl (.int i) (.int j) G R = (CShl i j ∧ R (.int (i * 2 ^ j.toNat)) G) := rfl
theorem dNeg_i : dNeg (.int i) G R = R (.int (-i)) G := rfl
theorem dIadd_ii : dIadd (.int i) (.int j) G R = R (.int (i + j)) G := rfl
theorem dLt_ii : dLt (.int i) (.int j) G R = R (.bl (decide (i < j))) G := rfl
theorem dLe_ii : dLe (.int i) (.int j) G R = R (.bl (decide (i ≤ j))) G := rfl
theorem dGt_ii : dGt (.int i) (.int j) G R = R (.bl (decide (j < i))) G := rfl
theorem dGe_ii : dGe (.int i) (.int j) G R = R (.bl (decide (j ≤ i))) G := rfl
theorem dEq_ii : dEq (.int i) (.int j) G R = R (.bl (decide (i = j))) G := rfl
theorem dNe_ii : dNe (.int i) (.int j) G R = R (.bl (!decide (i = j))) G := rfl
theorem dEq_ss : dEq (.str a) (.str b) G R = R (.bl (decide (a = b))) G := rfl
theorem dNe_ss : dNe (.str a) (.str b) G R = R (.bl (!decide (a = b))) G := rfl
theorem dEq_bb : dEq (.bl x) (.bl y) G R = R (.bl (decide (x = y))) G := rfl
theorem dNe_bb : dNe (.bl x) (.bl y) G R = R (.bl (!decide (x = y))) G := rfl
theorem dIs_n : dIs d .non G R = R (.bl (isNon d)) G := rfl
theorem dIsNot_n : dIsNot d .non G R = R (.bl (!isNon d)) G := rfl
theorem dMax2_ii : dMax2 [.int i, .int j] G R = R (.int (if j > i then j else i)) G := rfl
theorem dMin2_ii : dMin2 [.int i, .int j] G R = R (.int (if j < i then j else i)) G := rfl
theorem dTuple_t : dTuple [.tup as] G R = R (.tup as) G := rfl
theorem dTuple_l : dTuple [.lst as] G R = R (.tup as) G := rfl
theorem dList_t : dList mk [.tup as] G R = newL mk as G R := rfl
theorem dList_l : dList mk [.lst as] G R = newL mk as G R := rfl
theorem dIx_t : dIx (.tup as) (.int i) G R = (match atI as i with | some d => R d G | none => False) := rfl
theorem dIx_l : dIx (.lst as) (.int i) G R = (match atI as i with | some d => R d G | none => False) := rfl
theorem dIx_s : dIx (.str a) (.int i) G R = (a.length ≤ sizeLine ∧ (match atI a.cps.toList i with | some c => R (.str ⟨#[c]⟩) G | none => False)) := rfl
theorem dSl_t {lo hi : Option Int} : dSl mk (.tup as) lo hi G R = R (.tup (cutL as lo hi)) G := rfl
theorem dSl_l {lo hi : Option Int} : dSl mk (.lst as) lo hi G R = newL mk (cutL as lo hi) G R := rfl
theorem dSl_s {lo hi : Option Int} : dSl mk (.str a) lo hi G R = (a.length ≤ sizeLine ∧ R (.str (cutS a lo hi)) G) := rfl
theorem newL_f : newL false as G R = R (.lst as) G := rfl
end
end DL

set_option Elab.async false
set_option linter.all false
set_option maxRecDepth 100000
set_option maxHeartbeats 4000000
set_option autoImplicit false
namespace DL
open PySem PySem.Spec PyProof.Rows L2
/-! ### a block within a block -/
/-! ### names in another order -/
def permL {α : Type} (js : List Nat) (l : List α) : List α := js.filterMap fun i => l[i]?
/-! ### zip -/
def zipD : List D → List D → List D
  | x :: xs, y :: ys => .tup [x, y] :: zipD xs ys
  | _, _ => []
theorem zipD_get : ∀ (xs ys : List D) (i : Nat), (zipD xs ys)[i]? = match xs[i]?, ys[i]? with | some x, some y => some (.tup [x, y]) | _, _ => none
  | [], ys, i => by simp [zipD]
  | x :: xs, [], i => by
    simp only [zipD, List.getElem?_nil]
    split <;> simp_all
  | x :: xs, y :: ys, 0 => by simp [zipD]
  | x :: xs, y :: ys, i + 1 => by simp only [zipD, List.getElem?_cons_succ]; exact zipD_get xs ys i
theorem zipD_length : ∀ (xs ys : List D), (zipD xs ys).length = min xs.length ys.length
  | [], ys => by simp [zipD]
  | x :: xs, [] => by simp [zipD]
  | x :: xs, y :: ys => by simp only [zipD, List.length_cons, zipD_length xs ys]; omega
variable {X : Cx}
end DL

set_option Elab.async false
set_option linter.all false
set_option maxRecDepth 100000
set_option maxHeartbeats 4000000
set_option autoImplicit false
namespace DL
open PySem PySem.Spec PyProof.Rows L2
/-! ### a, *b = a tuple or a list -/
section
variable {prog : Program} {w : World} {A : Around} {E : Value → Shared → Prop} {s : Shared}
end
section
variable {X : Cx} {pos : Pos}
end
section
variable {X : Cx} {pos : Pos}
def starD (n i : Nat) (ds : List D) : List D := ds.take i ++ [.lst ((ds.drop i).take (ds.length + 1 - n))] ++ (ds.drop i).drop (ds.length + 1 - n)
def dStar (n i : Nat) (is : List Nat) : DG := fun d σ G R => match d with
  | .tup ds => n ≤ ds.length + 1 ∧ R (setAll σ is (starD n i ds)) G
  | .lst ds => n ≤ ds.length + 1 ∧ R (setAll σ is (starD n i ds)) G
  | _ => False
theorem starD_one (d : D) (ds : List D) : starD 2 1 (d :: ds) = [d, .lst ds] := by
  unfold starD
  simp
end
end DL

set_option Elab.async false
set_option linter.all false
set_option maxRecDepth 100000
set_option maxHeartbeats 4000000
set_option autoImplicit false
namespace DL
open PySem PySem.Spec PyProof.Rows L2
/-! ### the module's tuples and dicts -/
/-- what stands written: the value u is the data d, whatever else stands -/
def Kc (K : PySem.W.Frag) (d : D) (u : Value) : Prop := ∃ v, RelV v u ∧ ∀ H N, RD K H N d v
variable {X : Cx}
def dInK (d : Addr) (kvs : List (Str × D)) (f : Bool → Bool) : DR2 := fun x y G R => match x with | .str z => y = .ref d ∧ R (.bl (f (kvs.lookup z).isSome)) G | _ => False
def dIxK (d : Addr) (kvs : List (Str × D)) : DR2 := fun x y G R => match y with | .str z => x = .ref d ∧ (match kvs.lookup z with | some v => R v G | none => False) | _ => False
inductive KvOk (K : PySem.W.Frag) : List (Str × D) → List (Str × Tok × Value) → Prop where
  | nil : KvOk K [] []
  | cons {k : Str} {t : Tok} {v : Value} {x : D} {kvs : List (Str × D)} {l : List (Str × Tok × Value)} : Kc K x v → KvOk K kvs l → KvOk K ((k, x) :: kvs) ((k, t, v) :: l)
end DL

set_option Elab.async false
set_option linter.all false
set_option maxRecDepth 100000
set_option maxHeartbeats 4000000
set_option autoImplicit false
namespace DL
open PySem PySem.Spec PyProof.Rows L2
/-! ### zip of lists and tuples in any mix: the kind of a source is told by a Bool (true: a list) -/
def sqB (l : Bool) (K : PySem.W.Frag) (H : Hp) (a : Addr) (xs : List V) : Prop := match l with | true => SqL K H a xs | false => SqT K H a xs
def itB (l : Bool) (h : Heap) (it a : Addr) (i : Nat) : Prop := match l with | true => h.IsListIter it a i | false => h.IsTupleIter it a i
def srB (l : Bool) (h : Heap) (a : Addr) (its : Array Value) : Prop := match l with | true => h.IsList a its | false => h.IsTuple a its
def boB (l : Bool) (a : Addr) : Obj := match l with | true => { cls := .type "list_iterator", data := .fields #[.ref a, .int 0 0] } | false => { cls := .type "tuple_iterator", data := .fields #[.ref a, .int 0 0] }
theorem drB {prog : Program} {w : World} {A : Around} (hh : A.handled = none) (l : Bool) (it a : Addr) (hne : a ≠ it) (its : Array Value) : Draws prog w A it [it, a] its.size (fun i v => its[i]? = some v) (fun i h => itB l h it a i ∧ srB l h a its) := by
  cases l
  · exact Draws.tuple hh it a hne its
  · exact Draws.list hh it a hne its
theorem beB (l : Bool) (a : Addr) (its : Array Value) : Begins (.ref a) (boB l a) fun h => srB l h a its := by
  cases l
  · exact begins_tuple a its
  · exact begins_list a its
theorem itB_at {l : Bool} {h h' : Heap} {it a : Addr} {i : Nat} (x : itB l h it a i) (k : ∀ o, h.get? it = some o → h'.get? it = some o) : itB l h' it a i := by
  cases l
  · exact Heap.IsTupleIter.at x k
  · exact Heap.IsListIter.at x k
theorem itB_obj {l : Bool} {h : Heap} {it a : Addr} {i : Nat} (x : itB l h it a i) : ∃ o, h.get? it = some o ∧ ∀ v, o.data ≠ .cell v := by
  cases l
  · obtain ⟨o, e, _, d⟩ := x; exact ⟨o, e, fun v q => by rw [d] at q; cases q⟩
  · obtain ⟨o, e, _, d⟩ := x; exact ⟨o, e, fun v q => by rw [d] at q; cases q⟩
theorem itB_new {l : Bool} {h : Heap} {it a : Addr} (e : h.get? it = some (boB l a)) : itB l h it a 0 := by
  cases l
  · exact ⟨_, e, rfl, rfl⟩
  · exact ⟨_, e, rfl, rfl⟩
theorem srB_of {X : Cx} {pins : List (Addr × Obj)} {σ : L2.St} {H : Hp} {s : Shared} {l : Bool} {a : Addr} {xs : List V} (I : Inv X pins σ H s) (h : sqB l X.K H a xs) : ∃ its : List Value, Vals xs its ∧ srB l s.heap a its.toArray ∧ a < s.heap.objs.size := by
  cases l
  · obtain ⟨its, rv, p, _⟩ := I.tuple h
    obtain ⟨o, ho, _⟩ := id p
    exact ⟨its, rv, p, Heap.lt_size ho⟩
  · obtain ⟨its, rv, p, _⟩ := I.list h
    exact ⟨its, rv, p.isList, p.lt⟩
theorem sqB_inj {X : Cx} {pins : List (Addr × Obj)} {σ : L2.St} {H : Hp} {s : Shared} {l : Bool} {a : Addr} {xs ys : List V} (I : Inv X pins σ H s) (h : sqB l X.K H a xs) (h' : sqB l X.K H a ys) : xs = ys := by
  cases l
  · exact I.tuple_inj h h'
  · exact I.list_inj h h'
def ItM (K : PySem.W.Frag) (l1 l2 : Bool) (a b : Addr) : It :=
  ⟨fun i H => ∃ (xs ys : List V) (x y : V), sqB l1 K H a xs ∧ sqB l2 K H b ys ∧ xs[i]? = some x ∧ ys[i]? = some y,
    fun i H v H' => ∃ T x y, v = .ref T ∧ H T = none ∧ H' = upd H T (.tup [x, y]) ∧ (∀ xs, sqB l1 K H a xs → xs[i]? = some x) ∧ ∀ ys, sqB l2 K H b ys → ys[i]? = some y,
    fun i H => ∃ xs ys : List V, sqB l1 K H a xs ∧ sqB l2 K H b ys ∧ min xs.length ys.length = i⟩
theorem turn_zipM {P : Program} {w : World} {K : PySem.W.Frag} {elts : List Expr} {kk : Nat} {tpos : Pos} {l1 l2 : Bool} {a b z TI TO i1 i2 : Addr} (S : ZipSep2 z TI TO i1 i2 [i1, a] [i2, b]) (ne1 : a ≠ i1) (ne2 : b ≠ i2) :
    Turn P w K (.Tuple elts kk tpos) (ItM K l1 l2 a b) [z, TI, TO, i1, i2] z (fun i h => IsZip h z TI TO .none ∧ IsTupOf2 h TI (.ref i1) (.ref i2) ∧ (∃ x y, IsTupOf2 h TO x y) ∧ itB l1 h i1 a i ∧ itB l2 h i2 b i) where
  mem := by simp
  obj := fun i h st c hc => by
    obtain ⟨hz, hTI, ⟨x, y, hTO⟩, s1, s2⟩ := st
    have e' : c = z ∨ c = TI ∨ c = TO ∨ c = i1 ∨ c = i2 := by simpa using hc
    rcases e' with rfl | rfl | rfl | rfl | rfl
    · exact ⟨_, hz, fun v q => nomatch q⟩
    · exact ⟨_, hTI, fun v q => nomatch q⟩
    · exact ⟨_, hTO, fun v q => nomatch q⟩
    · exact itB_obj s1
    · exact itB_obj s2
  keep := fun i h h' st k => by
    obtain ⟨hz, hTI, ⟨x, y, hTO⟩, s1, s2⟩ := st
    exact ⟨k _ (by simp) _ hz, k _ (by simp) _ hTI, ⟨x, y, k _ (by simp) _ hTO⟩, itB_at s1 fun o q => k _ (by simp) o q, itB_at s2 fun o q => k _ (by simp) o q⟩
  item := by
    intro X hP hw hK hc i pins s σ H E I hf st hg
    subst hP hw hK
    obtain ⟨xs, ys, x, y, hqx, hqy, hx, hy⟩ := hg
    obtain ⟨its, rv, p, la⟩ := srB_of I hqx
    obtain ⟨its2, rv2, p2, lb⟩ := srB_of I hqy
    obtain ⟨hz, hTI, hTO, h1, h2⟩ := st
    have h1' := itB_obj h1
    have h2' := itB_obj h2
    have n1 := rv.length
    have n2 := rv2.length
    have hi1 : i < xs.length := (List.getElem?_eq_some_iff.mp hx).1
    have hi2 : i < ys.length := (List.getElem?_eq_some_iff.mp hy).1
    have hh : X.A.in1.handled = none := I.ok.hd hc
    have W := GoesN.zip2 (prog := X.prog) (w := X.w) (A := X.A) (elts := elts) (x1 := kk) (pos := tpos) S (drB hh l1 i1 a ne1 its.toArray) (drB hh l2 i2 b ne2 its2.toArray)
    refine W.goes i s _ E (by simp only [List.size_toArray]; omega) ⟨hz, hTI, hTO, ⟨h1, p⟩, h2, p2⟩ fun v h' tk hY hSt hk htk => ?_
    obtain ⟨T, u, u2, rfl, hT, hu, hu2, hTT⟩ := hY
    obtain ⟨hz', hTI', hTO', ⟨h1'', _⟩, h2'', _⟩ := hSt
    obtain ⟨u0, hu0, ru⟩ := rv.get hx
    obtain ⟨u20, hu20, ru2⟩ := rv2.get hy
    have eu : u0 = u := by
      have : its[i]? = some u := by simpa using hu
      rw [hu0] at this; exact Option.some.inj this
    have eu2 : u20 = u2 := by
      have : its2[i]? = some u2 := by simpa using hu2
      rw [hu20] at this; exact Option.some.inj this
    subst eu eu2
    have lt5 : ∀ c ∈ [z, TI, TO, i1, i2], c < s.heap.objs.size := by
      intro c hcm
      obtain ⟨ta, tb, hTO⟩ := hTO
      have e' : c = z ∨ c = TI ∨ c = TO ∨ c = i1 ∨ c = i2 := by simpa using hcm
      rcases e' with rfl | rfl | rfl | rfl | rfl
      · exact Heap.lt_size hz
      · exact Heap.lt_size hTI
      · exact Heap.lt_size hTO
      · obtain ⟨_, e, _⟩ := h1'; exact Heap.lt_size e
      · obtain ⟨_, e, _⟩ := h2'; exact Heap.lt_size e
    have new : ObjOk X.prog X.w (upd H T (.tup [x, y])) h' T (.tup [x, y]) := ⟨by show 2 ≤ sizeLine; decide, [u0, u20], .cons ru (.cons ru2 .nil), hTT⟩
    have I1 : Inv X pins σ (upd H T (.tup [x, y])) { s with heap := h', toks := tk } :=
      I.turnedNew (t' := tk) (ch := [z, TI, TO, i1, i2]) (fun c o hb q => hk c o (fun m => hb (by simp only [List.mem_cons, List.not_mem_nil, or_false] at m ⊢; rcases m with m | m | m | m <;> simp [m])) q) hf hT new
    refine ⟨.ref T, _, I1, rfl, ⟨T, x, y, rfl, I.hok.fresh hT, rfl, fun l hl => by rw [sqB_inj I hl hqx]; exact hx, fun l hl => by rw [sqB_inj I hl hqy]; exact hy⟩, ⟨hz', hTI', hTO', h1'', h2''⟩, fun c hcm => ?_⟩
    rw [upd_ne (Nat.ne_of_lt (Nat.lt_of_lt_of_le (lt5 c hcm) hT))]
    exact (hf c hcm).1
  done := by
    intro X hP hw hK hc i pins s σ H E I hf st hg
    subst hP hw hK
    obtain ⟨xs, ys, hqx, hqy, hend⟩ := hg
    obtain ⟨its, rv, p, la⟩ := srB_of I hqx
    obtain ⟨its2, rv2, p2, lb⟩ := srB_of I hqy
    obtain ⟨hz, hTI, hTO, h1, h2⟩ := st
    have n1 := rv.length
    have n2 := rv2.length
    have hh : X.A.in1.handled = none := I.ok.hd hc
    have W := GoesN.zip2 (prog := X.prog) (w := X.w) (A := X.A) (elts := elts) (x1 := kk) (pos := tpos) S (drB hh l1 i1 a ne1 its.toArray) (drB hh l2 i2 b ne2 its2.toArray)
    have en : min its.toArray.size its2.toArray.size = i := by simp only [List.size_toArray]; omega
    rw [← en] at h1 h2
    exact W.stops s _ E ⟨hz, hTI, hTO, ⟨h1, p⟩, h2, p2⟩ fun h' tk hk htk => I.turnedL (t' := tk) (ch := [z, TI, TO, i1, i2]) (fun c o hb q => hk c o (fun m => hb (by simp only [List.mem_cons, List.not_mem_nil, or_false] at m ⊢; rcases m with m | m | m | m <;> simp [m])) q) hf
  self := fun A i s Q E st h => wpAny_pyIter_zip st.1 h
def iZipM (K : PySem.W.Frag) (ta : TA) : TI := fun σ H R => ta σ H fun vs H1 => ∃ l1 l2 a b xs ys, vs = [.ref a, .ref b] ∧ sqB l1 K H1 a xs ∧ sqB l2 K H1 b ys ∧ R (ItM K l1 l2 a b) H1
theorem pi_zipM {X : Cx} {e e2 : Expr} {ta : TA} {p pos tpos : Pos} {elts : List Expr} {kk : Nat} (hg : Gl X "zip") (hm : X.mg "zip" = none) (ha : PA X [e, e2] ta)
    (hs : starEach [e, e2] X.env = (false, eval e X.env) :: starEach [e2] X.env := by rfl) (hpl : (backTo pos (starEach [e2] X.env)).any (·.1) = false := by rfl) :
    PI X (.Tuple elts kk tpos) (.Call (.Name "zip" p) [e, e2] [] pos) (iZipM X.K ta) := by
  refine ⟨fun pins s σ H R I h => ?_⟩
  refine Call_ (ld_blt I hg hm PyProof.Rows.boot_zip (PyProof.Rows.callWith_type1 (thn (ha.run pos pins s σ H _ I h) fun us s1 ⟨vs, H1, I1, r1, q1⟩ => ?_) hs hpl))
  obtain ⟨l1, l2, a, b, xs, ys, ex, hqx, hqy, q⟩ := q1
  subst ex
  cases r1 with
  | cons r rr =>
    cases rr with
    | cons r' rr =>
      cases rr
      cases r
      cases r'
      obtain ⟨its, rv, p1, la⟩ := srB_of I1 hqx
      obtain ⟨its2, rv2, p2, lb⟩ := srB_of I1 hqy
      refine zip_begins2 (beB l1 a its.toArray) (beB l2 b its2.toArray) p1 p2 fun h' hz hTI hTO h1 h2 hsz hk => wpAny_pyIter_zip hz ?_
      have I2 : Inv X pins σ H1 { s1 with heap := h' } := I1.kept (t' := s1.toks) hk
      have S : ZipSep2 (s1.heap.objs.size + 4) (s1.heap.objs.size + 2) (s1.heap.objs.size + 3) s1.heap.objs.size (s1.heap.objs.size + 1) [s1.heap.objs.size, a] [s1.heap.objs.size + 1, b] :=
        zip_sep2 (N := s1.heap.objs.size) (fp1 := [a]) (fp2 := [b]) (fun c hc => by rw [List.mem_singleton] at hc; subst hc; exact la) (fun c hc => by rw [List.mem_singleton] at hc; subst hc; exact lb)
      refine ⟨s1.heap.objs.size + 4, [s1.heap.objs.size + 4, s1.heap.objs.size + 2, s1.heap.objs.size + 3, s1.heap.objs.size, s1.heap.objs.size + 1], _, _, H1, rfl, I2,
        turn_zipM (l1 := l1) (l2 := l2) S (Nat.ne_of_lt la) (Nat.ne_of_lt (Nat.lt_succ_of_lt lb)), ⟨hz, hTI, ⟨_, _, hTO⟩, itB_new h1, itB_new h2⟩, fun c hcm => ?_, q⟩
      have hle : s1.heap.objs.size ≤ c := by
        have e' : c = s1.heap.objs.size + 4 ∨ c = s1.heap.objs.size + 2 ∨ c = s1.heap.objs.size + 3 ∨ c = s1.heap.objs.size ∨ c = s1.heap.objs.size + 1 := by simpa using hcm
        rcases e' with z | z | z | z | z <;> rw [z] <;> first | exact Nat.le_refl _ | exact Nat.le_add_right _ _
      exact I1.fpOk hle (I1.hok.fresh hle)
theorem yl_zipM {K : PySem.W.Frag} {H0 : Hp} {N0 : Ns} {G0 : Gp} {l1 l2 : Bool} {a b : Addr} {ds es : List D} {gd : Gp → Prop} (h : ∀ H N G, Stp K H0 N0 G0 H N G → gd G → ∃ vs ws, sqB l1 K H a vs ∧ RDs K H N ds vs ∧ sqB l2 K H b ws ∧ RDs K H N es ws) : Yl K (ItM K l1 l2 a b) H0 N0 G0 (zipD ds es) gd := by
  refine ⟨fun i H N G d s g e => ?_, fun i H N G s g e => ?_⟩
  · obtain ⟨vs, ws, sq, r, sq', r'⟩ := h H N G s g
    rw [zipD_get] at e
    cases ed : ds[i]? with
    | none => rw [ed] at e; cases e
    | some d0 =>
      cases ee : es[i]? with
      | none => rw [ed, ee] at e; cases e
      | some e0 =>
        rw [ed, ee] at e
        cases e
        obtain ⟨v, hv, rv⟩ := r.get ed
        obtain ⟨u, hu, ru⟩ := r'.get ee
        refine ⟨⟨vs, ws, v, u, sq, sq', hv, hu⟩, fun x H' y => ?_⟩
        obtain ⟨T, x1, y1, rfl, nT, rfl, y, y'⟩ := y
        have e2 := y vs sq
        rw [hv] at e2; cases e2
        have e3 := y' ws sq'
        rw [hu] at e3; cases e3
        have s2 := Stp.new0 (u := .tup [v, u]) s.rel nT
        exact ⟨s2, RD.tup (.inl (.inl upd_same)) (RDs.cons (rv.le s2.kp) (RDs.cons (ru.le s2.kp) RDs.nil))⟩
  · obtain ⟨vs, ws, sq, r, sq', r'⟩ := h H N G s g
    rw [zipD_length] at e
    exact ⟨vs, ws, sq, sq', by rw [← r.length, ← r'.length]; exact e⟩
/-- a source, told by data -/
def srcD (G : Gp) : D → Option (Bool × List D × (Gp → Prop))
  | .tup ds => some (false, ds, fun _ => True)
  | .nt zs => some (false, zs.map .str, fun _ => True)
  | .lst ds => some (true, ds, fun _ => True)
  | .ref a => match G a with | some (.lst ds) => some (true, ds, fun G => G a = some (.lst ds)) | _ => none
  | _ => none
theorem srcD_ok {K : PySem.W.Frag} {H0 : Hp} {N0 : Ns} {G0 : Gp} {d : D} {v : V} {l : Bool} {ds : List D} {gd : Gp → Prop} (rg : RelG K H0 N0 G0) (rd : RD K H0 N0 d v) (h : srcD G0 d = some (l, ds, gd)) :
    ∃ a, v = .ref a ∧ (∃ vs, sqB l K H0 a vs) ∧ ∀ H N G, Stp K H0 N0 G0 H N G → gd G → ∃ vs, sqB l K H a vs ∧ RDs K H N ds vs := by
  unfold srcD at h
  split at h
  · cases h
    obtain ⟨p, vs, rfl, sq, r⟩ := rd.of_tup
    exact ⟨p, rfl, ⟨vs, sq⟩, fun H N G s _ => ⟨vs, SqT.le s.kp.kle sq, r.le s.kp⟩⟩
  · cases h
    obtain ⟨p, vs, rfl, sq, r⟩ := rd.nt_tup.of_tup
    exact ⟨p, rfl, ⟨vs, sq⟩, fun H N G s _ => ⟨vs, SqT.le s.kp.kle sq, r.le s.kp⟩⟩
  · cases h
    obtain ⟨p, vs, rfl, sq, r⟩ := rd.of_lst
    exact ⟨p, rfl, ⟨vs, sq.sq⟩, fun H N G s _ => ⟨vs, (sq.le s.kp).sq, r.le s.kp⟩⟩
  · split at h
    · rename_i e
      cases h
      obtain rfl := rd.of_ref
      obtain ⟨_, vs, hv, r⟩ := rg _ _ e
      refine ⟨_, rfl, ⟨vs, SqL.of hv⟩, fun H N G s g => ?_⟩
      obtain ⟨_, vs, hv, r⟩ := s.rel _ _ g
      exact ⟨vs, SqL.of hv, r⟩
    · cases h
  · cases h
def dZipM (ta : DA) : DI := fun σ G R => ta σ G fun ds G1 => match ds with
  | [x, y] => (match srcD G1 x, srcD G1 y with | some (_, xs, g1), some (_, ys, g2) => R (zipD xs ys) (fun G => g1 G ∧ g2 G) G1 | _, _ => False)
  | _ => False
theorem qi_zipM {X : Cx} {e e2 : Expr} {ta : DA} {p pos tpos : Pos} {elts : List Expr} {kk : Nat} (hg : Gl X "zip") (hm : X.mg "zip" = none) (ha : QA X [e, e2] ta)
    (hs : starEach [e, e2] X.env = (false, eval e X.env) :: starEach [e2] X.env := by rfl) (hpl : (backTo pos (starEach [e2] X.env)).any (·.1) = false := by rfl) :
    QI X (.Tuple elts kk tpos) (.Call (.Name "zip" p) [e, e2] [] pos) (dZipM ta) := pi_mono (pi_zipM hg hm ha hs hpl) fun τ H Q h => by
  obtain ⟨σ, G, N, R, hs, hg, ht, q⟩ := h
  refine ⟨σ, G, N, _, hs, hg, ht, fun ds G1 N1 vs H1 h1 s1 r1 => ?_⟩
  split at h1
  · rename_i x y
    split at h1
    · rename_i l1 xs g1 l2 ys g2 e1 e2
      obtain ⟨v, r, rfl, r2, r3⟩ := r1.of_cons
      obtain ⟨v', r', rfl, r4, r5⟩ := r3.of_cons
      rw [r5.of_nil]
      obtain ⟨a, rfl, ⟨vs, sq⟩, k1⟩ := srcD_ok s1.rel r2 e1
      obtain ⟨b, rfl, ⟨ws, sq'⟩, k2⟩ := srcD_ok s1.rel r4 e2
      refine ⟨l1, l2, a, b, vs, ws, rfl, sq, sq', q _ _ _ _ _ _ h1 s1 (yl_zipM fun H N G s g => ?_)⟩
      obtain ⟨vs, h1, h2⟩ := k1 H N G s g.1
      obtain ⟨ws, h3, h4⟩ := k2 H N G s g.2
      exact ⟨vs, ws, h1, h2, h3, h4⟩
    · exact h1.elim
  · exact h1.elim
end DL

set_option Elab.async false
set_option linter.all false
set_option maxRecDepth 100000
set_option maxHeartbeats 4000000
set_option autoImplicit false
namespace DL
open PySem PySem.Spec PyProof.Rows L2
/-! ### == of a dict and a text -/
section
variable {A : Around} {s : Shared}
end
variable {X : Cx}
end DL

set_option Elab.async false
set_option linter.all false
set_option maxRecDepth 100000
set_option maxHeartbeats 4000000
set_option autoImplicit false
namespace DL
open PySem PySem.Spec PyProof.Rows L2
/-! ### steps in applied form -/
/-- what goes on, kept shut -/
def Kont (P : Sd → Gp → Prop) : Sd → Gp → Prop := P
theorem kont_go {P : Sd → Gp → Prop} {σ : Sd} {G : Gp} (h : P σ G) : Kont P σ G := h
def br (b : Bool) (A B : Prop) : Prop := match b with | true => A | false => B
def isB (x : D) (k : Bool → Prop) : Prop := match x with | .bl b => k b | _ => False
def isI (x : D) (k : Int → Prop) : Prop := match x with | .int b => k b | _ => False
def isN (x : Option D) (k : D → Prop) : Prop := match x with | some b => k b | none => False
def slo (x : Option (Option D)) (k : D → Prop) : Prop := match x with | some (some d) => k d | _ => False
section
variable {A B : Prop} {b c : Bool} {k : Bool → Prop} {ki : Int → Prop} {kd : D → Prop} {i : Int} {d : D}
theorem br_t : br true A B = A := rfl
theorem br_f : br false A B = B := rfl
theorem br_not : br (!b) A B = br b B A := by cases b <;> rfl
theorem br_dec {P : Prop} [Decidable P] : br (decide P) A B = if P then A else B := by
  by_cases h : P
  · rw [decide_eq_true h, if_pos h]; rfl
  · rw [decide_eq_false h, if_neg h]; rfl
theorem br_and : br (b && c) A B = br b (br c A B) B := by cases b <;> rfl
theorem br_or : br (b || c) A B = br b A (br c A B) := by cases b <;> rfl
theorem isB_bl : isB (.bl b) k = k b := rfl
theorem isI_int : isI (.int i) ki = ki i := rfl
theorem isN_some : isN (some d) kd = kd d := rfl
theorem slo_some : slo (some (some d)) kd = kd d := rfl
end
section
variable {σ : Sd} {G : Gp} {R : DK} {Rb : Bool → Gp → Prop} {Ra : List D → Gp → Prop} {Rg : Sd → Gp → Prop} {E : DEnds} {i : Nat} {d : D} {ta tb tc : DE} {c c' : DT} {tr : DA} {r r' : DR2} {r1 : DR1} {s t u : DS} {g : DG} {ti : DI} {mk : Bool} {rn : DRn} {sp : DSp}
theorem x_var : dVar i σ G R = slo σ[i]? fun d => R d G := rfl
theorem x_c : dC d σ G R = R d G := rfl
theorem x_op : dOp r ta tb σ G R = ta σ G fun x G1 => tb σ G1 fun y G2 => r x y G2 R := rfl
theorem x_un : dUn r1 ta σ G R = ta σ G fun x G1 => r1 x G1 R := rfl
theorem x_b : dB ta σ G Rb = ta σ G fun x G1 => isB x fun b => Rb b G1 := rfl
theorem x_and : dAnd c c' σ G Rb = c σ G fun b G1 => br b (c' σ G1 Rb) (Rb false G1) := rfl
theorem x_or : dOr c c' σ G Rb = c σ G fun b G1 => br b (Rb true G1) (c' σ G1 Rb) := rfl
theorem x_not : dNot c σ G Rb = c σ G fun b G1 => Rb (!b) G1 := rfl
def isBB (x : D) (A B : Prop) : Prop := match x with | .bl true => A | .bl false => B | _ => False
theorem isBB_bl {b : Bool} {A B : Prop} : isBB (.bl b) A B = br b A B := by cases b <;> rfl
theorem x_chain : dChain r r' ta tb tc σ G R = ta σ G fun x G1 => tb σ G1 fun y G2 => r x y G2 fun z G3 => isBB z (tc σ G3 fun w G4 => r' y w G4 R) (R (.bl false) G3) := rfl
theorem x_andV : dAndV ta tb σ G R = ta σ G fun x G1 => isBB x (tb σ G1 R) (R (.bl false) G1) := rfl
theorem x_orV : dOrV ta tb σ G R = ta σ G fun x G1 => isBB x (R (.bl true) G1) (tb σ G1 R) := rfl
theorem x_notV : dNotV ta σ G R = ta σ G fun x G1 => isB x fun b => R (.bl (!b)) G1 := rfl
theorem x_if : dIf c ta tb σ G R = c σ G fun b G1 => br b (ta σ G1 R) (tb σ G1 R) := rfl
theorem x_nil : dNil σ G Ra = Ra [] G := rfl
theorem x_cons : dCons ta tr σ G Ra = ta σ G fun x G1 => tr σ G1 fun xs G2 => Ra (x :: xs) G2 := rfl
theorem x_tup : dTup tr σ G R = tr σ G fun ds G1 => ds.length ≤ sizeLine ∧ R (.tup ds) G1 := rfl
theorem x_lst0 : dLst false tr σ G R = tr σ G fun ds G1 => ds.length ≤ sizeLine ∧ R (.lst ds) G1 := rfl
theorem x_lst1 : dLst true tr σ G R = tr σ G fun ds G1 => ds.length ≤ sizeLine ∧ ∀ p, G1 p = none → R (.ref p) (gup G1 p (.lst ds)) := rfl
theorem x_callB : dCallB rn tr σ G R = tr σ G fun ds G1 => rn ds G1 R := rfl
theorem x_call : dCall sp tr σ G R = tr σ G fun ds G1 => sp ds G1 R := rfl
theorem x_callK {f : List D → List D} {n : Nat} : dCallK sp f n tr σ G R = tr σ G fun ds G1 => ds.length = n ∧ sp (f ds) G1 R := rfl
theorem x_next : dNext E σ G = E.nx σ G := rfl
theorem x_seq : dSeq t u E σ G = t { E with nx := Kont (u E) } σ G := rfl
theorem x_break : dBreak E σ G = E.bk σ G := rfl
theorem x_cont : dCont E σ G = E.ct σ G := rfl
theorem x_drop : dDrop ta E σ G = ta σ G fun _ G1 => E.nx σ G1 := rfl
/-- what is told, with what is still known: Wk -/
def Rt (R : DK) (d : D) (G : Gp) : Prop := ∃ d' G', Wk G d d' G' ∧ R d' G'
theorem rt_same {R : DK} {d : D} {G : Gp} (h : R d G) : Rt R d G := ret_same h
theorem x_ret : dRet ta E σ G = ta σ G fun d G1 => Rt E.rt d G1 := rfl
theorem x_ifS : dIfS c t u E σ G = c σ G fun b G1 => br b (t E σ G1) (u E σ G1) := rfl
theorem x_asg : dAsg ta g E σ G = ta σ G fun x G1 => g x σ G1 E.nx := rfl
theorem x_name : dName i d σ G Rg = Rg (σ.set i (some d)) G := rfl
theorem x_names {is : List Nat} {ds : List D} : dNames is (.tup ds) σ G Rg = (ds.length = is.length ∧ Rg (setAll σ is ds) G) := rfl
theorem x_sub {rs : DSet} : dSub ta tb rs d σ G Rg = ta σ G fun o G1 => tb σ G1 fun i G2 => rs o i d G2 fun G3 => Rg σ G3 := rfl
theorem x_aug : dAug i ta r E σ G = slo σ[i]? fun x => ta σ G fun y G1 => r x y G1 fun z G2 => E.nx (σ.set i (some z)) G2 := rfl
theorem x_augS {rs : DSet} : dAugS ta tb tc r r' rs E σ G = ta σ G fun o G1 => tb σ G1 fun i G2 => r o i G2 fun x G3 => tc σ G3 fun y G4 => r' x y G4 fun z G5 => rs o i z G5 fun G6 => E.nx σ G6 := rfl
theorem x_for : dFor ti g t E σ G = ti σ G fun xs gd G1 => dForGo g t gd E xs σ G1 := rfl
theorem x_lc0 {ws : List Nat} : dLc false ti g c tb ws σ G R = ti σ G fun xs gd G1 => xs.length ≤ sizeLine ∧ dLcGo g c tb gd (wipeD σ ws) xs [] G1 fun ds G2 => R (.lst ds) G2 := rfl
theorem x_lc1 {ws : List Nat} : dLc true ti g c tb ws σ G R = ti σ G fun xs gd G1 => xs.length ≤ sizeLine ∧ dLcGo g c tb gd (wipeD σ ws) xs [] G1 fun ds G2 => ∀ p, G2 p = none → R (.ref p) (gup G2 p (.lst ds)) := rfl
theorem x_yes : dYes σ G Rb = Rb true G := rfl
theorem x_noPart {Ro : Option Int → Gp → Prop} : dNoPart σ G Ro = Ro none G := rfl
theorem x_part {Ro : Option Int → Gp → Prop} : dPart ta σ G Ro = ta σ G fun x G1 => isI x fun i => Ro (some i) G1 := rfl
theorem x_slice {tl th : DO} : dSlice mk ta tl th σ G R = ta σ G fun x G1 => tl σ G1 fun l G2 => th σ G2 fun u G3 => dSl mk x l u G3 R := rfl
abbrev DIk := List D → (Gp → Prop) → Gp → Prop
/-- what is gone through: lists that nobody changes, texts, known lists -/
def itD (x : D) (G1 : Gp) (R : DIk) : Prop := match x with
  | .tup ds => R ds (fun _ => True) G1
  | .nt zs => R (zs.map .str) (fun _ => True) G1
  | .lst ds => R ds (fun _ => True) G1
  | .str z => R (signsD z) (fun _ => True) G1
  | .ref a => match G1 a with | some (.lst ds) => R ds (fun G => G a = some (.lst ds)) G1 | _ => False
  | _ => False
variable {Ri : DIk}
theorem x_iter : dIter ta σ G Ri = ta σ G fun x G1 => itD x G1 Ri := rfl
theorem it_t {ds : List D} : itD (.tup ds) G Ri = Ri ds (fun _ => True) G := rfl
theorem it_n {zs : List Str} : itD (.nt zs) G Ri = Ri (zs.map .str) (fun _ => True) G := rfl
theorem it_l {ds : List D} : itD (.lst ds) G Ri = Ri ds (fun _ => True) G := rfl
theorem it_s {z : Str} : itD (.str z) G Ri = Ri (signsD z) (fun _ => True) G := rfl
/-- a list that is known, by what it holds -/
def atL (o : Option GO) (k : List D → Prop) : Prop := match o with | some (.lst ds) => k ds | _ => False
theorem atL_lst {ds : List D} {k : List D → Prop} : atL (some (.lst ds)) k = k ds := rfl
theorem it_r {a : Addr} : itD (.ref a) G Ri = atL (G a) fun ds => Ri ds (fun G => G a = some (.lst ds)) G := rfl
theorem x_rng1 : dRng1 tr σ G Ri = tr σ G fun ds G1 => match ds with | [.int j] => -(2 ^ 62) ≤ j ∧ j < 2 ^ 62 ∧ Ri (rng 0 j.toNat) (fun _ => True) G1 | _ => False := rfl
theorem x_enum : dEnum tr σ G Ri = tr σ G fun ds G1 => match ds with
  | [.lst xs] => Ri (enumD 0 xs) (fun _ => True) G1
  | [.ref a] => (match G1 a with | some (.lst xs) => Ri (enumD 0 xs) (fun G => G a = some (.lst xs)) G1 | _ => False)
  | _ => False := rfl
theorem x_rev : dRev mk ta σ G R = ta σ G fun x G1 => match x with
  | .tup ds => R (.tup ds.reverse) G1
  | x => match lstOf G1 x with | some ds => newL mk ds.reverse G1 R | none => False := rfl
theorem x_m {T : String} {r : D → List D → Gp → DK → Prop} : dM T r ta tr σ G R = ta σ G fun x G1 => mty G1 x = some T ∧ tr σ G1 fun ds G2 => r x ds G2 R := rfl
theorem x_m0 {T : String} {r : D → List D → Gp → DK → Prop} : dM0 T r ta σ G R = ta σ G fun x G1 => mty G1 x = some T ∧ r x [] G1 R := rfl
theorem x_zip : dZipM tr σ G Ri = tr σ G fun ds G1 => match ds with
  | [x, y] => (match srcD G1 x, srcD G1 y with | some (_, xs, g1), some (_, ys, g2) => Ri (zipD xs ys) (fun G => g1 G ∧ g2 G) G1 | _, _ => False)
  | _ => False := rfl
theorem x_star_t {n j : Nat} {is : List Nat} {ds : List D} : dStar n j is (.tup ds) σ G Rg = (n ≤ ds.length + 1 ∧ Rg (setAll σ is (starD n j ds)) G) := rfl
theorem x_star_l {n j : Nat} {is : List Nat} {ds : List D} : dStar n j is (.lst ds) σ G Rg = (n ≤ ds.length + 1 ∧ Rg (setAll σ is (starD n j ds)) G) := rfl
theorem x_lenSet : dLenSet ta σ G R = ta σ G fun x G1 => match (seqOf G1 x).bind keysD with | some ks => ks.length + 1 < scanBound ∧ R (.int (uniq ks).length) G1 | none => False := rfl
theorem x_while : dWhile c t E σ G = ∃ n, dWhN c t E n σ G := rfl
theorem x_forgo0 {gd : Gp → Prop} : dForGo g t gd E [] σ G = (gd G ∧ E.nx σ G) := rfl
theorem x_lcgo0 {gd : Gp → Prop} {acc : List D} {Q : List D → Gp → Prop} : dLcGo g c ta gd σ [] acc G Q = (gd G ∧ Q acc G) := rfl
/-- things at places -/
theorem ix_t {as : List D} {i : Int} : dIx (.tup as) (.int i) G R = isN (atI as i) fun d => R d G := rfl
theorem ix_l {as : List D} {i : Int} : dIx (.lst as) (.int i) G R = isN (atI as i) fun d => R d G := rfl
theorem ix_r {a : Addr} {i : Int} : dIx (.ref a) (.int i) G R = atL (G a) fun ds => isN (atI ds i) fun d => R d G := by
  cases e : G a with
  | none => simp only [dIx, seqOf, lstOf, atL, e]
  | some o =>
    cases o with
    | lst ds => simp only [dIx, seqOf, lstOf, atL, isN, e] <;> rfl
    | _ => simp only [dIx, seqOf, lstOf, atL, e]
end
theorem at_0 {α : Type} {a : α} {xs : List α} : atI (a :: xs) 0 = some a := atI_nat (xs := a :: xs) (j := 0) (v := a) rfl
theorem at_1 {α : Type} {a b : α} {xs : List α} : atI (a :: b :: xs) 1 = some b := atI_nat (xs := a :: b :: xs) (j := 1) (v := b) rfl
theorem at_2 {α : Type} {a b c : α} {xs : List α} : atI (a :: b :: c :: xs) 2 = some c := atI_nat (xs := a :: b :: c :: xs) (j := 2) (v := c) rfl
theorem at_3 {α : Type} {a b c d : α} {xs : List α} : atI (a :: b :: c :: d :: xs) 3 = some d := atI_nat (xs := a :: b :: c :: d :: xs) (j := 3) (v := d) rfl
theorem at_4 {α : Type} {a b c d e : α} {xs : List α} : atI (a :: b :: c :: d :: e :: xs) 4 = some e := atI_nat (xs := a :: b :: c :: d :: e :: xs) (j := 4) (v := e) rfl
theorem at_5 {α : Type} {a b c d e f : α} {xs : List α} : atI (a :: b :: c :: d :: e :: f :: xs) 5 = some f := atI_nat (xs := a :: b :: c :: d :: e :: f :: xs) (j := 5) (v := f) rfl
end DL

set_option Elab.async false
set_option linter.all false
set_option maxRecDepth 100000
set_option maxHeartbeats 4000000
set_option autoImplicit false
namespace DL
open PySem PySem.Spec PyProof.Rows L2
/-! ### sorted(xs, key=f), f a def -/
section
variable {prog : Program} {w : World} {A : Around} {E : Value → Shared → Prop} {s : Shared} {a kS : Addr} {vs : List Value} {keys : Array Value} {e e1 : Nat} {P : PySem.Fin → Shared → Prop}
/-- the last steps: the keys go, the list gets what is sorted -/
theorem own_tail {z : SortSt} {ws : List Value} (hk : s.heap.get? kS = some (seqObj "list" keys e)) (hl : s.heap.get? a = some (seqObj "list" #[] e1)) (ne : kS ≠ a) (few : keys.size ≤ sizeLine) (few' : ws.length ≤ sizeLine)
    (calm : failedOf z = none) (told : (arrOf z).toList.map Prod.snd = ws)
    (next : ∀ (g g' : Heap) (c : Nat), (∀ b o, b ≠ kS → s.heap.get? b = some o → g.get? b = some o) → (∀ b o, b ≠ a → g.get? b = some o → g'.get? b = some o) → g'.get? a = some (seqObj "list" ws.toArray c) → P (.done (.ret .none)) { s with heap := g' }) :
    wpAny (model prog w) A (ksk_tail a false e1 (.ref kS) z) P E s := by
  have out : (arrOf z).map Prod.snd = ws.toArray := Array.toList_inj.mp (by rw [Array.toList_map, told])
  have u1 := (Heap.SameBut.update s.heap kS (Obj.mapSeq fun _ => (#[] : Array Value))).2
  have l1 := (u1 a ne.symm).trans hl
  have u2 := (Heap.SameBut.update (s.heap.update kS (Obj.mapSeq fun _ => (#[] : Array Value))) a (Obj.mapSeq fun _ => ws.toArray)).2
  show wpAny _ _ (do
    Builtin.List.listUpdate (.ref kS) fun _ => #[]
    letGo ((arrOf z).map Prod.fst).toList (failedOf z).toList
    let n ← seqEpoch a
    Builtin.List.listUpdate (.ref a) fun _ => (arrOf z).map Prod.snd
    if let some x := failedOf z then rule "list.sort.comparison-raised"; throw x
    if (n != e1) = true then rule "list.sort.modified"; raiseError "ValueError" "list modified during sort"
    ret .none) P E s
  rw [out, calm]
  refine wpAny_bind (listUpdate_at hk rfl (wpAny_bind (wpAny_letGo (wpAny_bind (seqEpoch_at l1 rfl (wpAny_bind (listUpdate_at l1 rfl ?_ (Nat.zero_le _) ?_)))))) few (Nat.zero_le _))
  · have same : (e1 != e1) = false := by simp
    simp only [same, Bool.false_eq_true, if_false]
    exact wpAny_pure (next _ _ _ (fun b o hb q => (u1 b hb).trans q) (fun b o hb q => (u2 b hb).trans q) (get?_update_seq l1 fun _ => ws.toArray))
  · rw [List.size_toArray]; omega
/-- keys that can be sorted: the items come out by them -/
theorem own_end {κ : PyProof.Rows.KeyKind} (hk : s.heap.get? kS = some (seqObj "list" keys e)) (hl : s.heap.get? a = some (seqObj "list" #[] e1)) (ne : kS ≠ a) (S : PySem.W.SortsAt prog w A s κ keys.toList) (hn : keys.size = vs.length) (few : vs.length ≤ sizeLine)
    (next : ∀ (g g' : Heap) (c : Nat), (∀ b o, b ≠ kS → s.heap.get? b = some o → g.get? b = some o) → (∀ b o, b ≠ a → g.get? b = some o → g'.get? b = some o) → g'.get? a = some (seqObj "list" (PySem.W.sortVals κ false keys.toList vs).toArray c) → P (.done (.ret .none)) { s with heap := g' }) :
    wpAny (model prog w) A (ksk_end a false vs.toArray e1 (.ref kS) keys) P E s := by
  have kz : PyProof.Rows.KeysOf κ (keys.zip vs.toArray) := PySem.W.keysOf_zip S.keys
  have len : (keys.zip vs.toArray).size = vs.length := by
    have h8 : vs.toArray.size = vs.length := List.size_toArray ..
    rw [Array.size_zip, h8, hn]
    exact Nat.min_self _
  have many : (PySem.W.sortVals κ false keys.toList vs).length ≤ sizeLine := by rw [PySem.W.sortVals_length false (by simpa using hn)]; exact few
  have fin : ∀ z : SortSt, failedOf z = none → (arrOf z).Perm (keys.zip vs.toArray) → SortedToK κ (arrOf z) vs.length → Stable κ (arrOf z) (keys.zip vs.toArray) → wpAny (model prog w) A (ksk_tail a false e1 (.ref kS) z) P E s := by
    intro z h0 h1 h2 h3
    refine own_tail hk hl ne (by omega) many h0 ?_ next
    have o := PySem.W.sort_out (rev := false) (κ := κ) (keys := keys) (items := vs.toArray) (xs := arrOf z) kz h1 (by rw [← len] at h2; exact h2) h3
    simpa using o
  show wpAny _ _ (do
    let kind ← if vs.toArray.size < 2 then pure general' else keyKind' keys
    let r ← (if vs.toArray.size < 2 then pure () else sortRuns').run (SortSt.mk' kind (keys.zip vs.toArray) #[] 7 none)
    ksk_tail a false e1 (.ref kS) r.2) P E s
  obtain ⟨kd, g1, g2⟩ := S.kind
  cases Nat.lt_or_ge vs.length 2 with
  | inl two =>
    have c : vs.toArray.size < 2 := by simpa using two
    simp only [c, if_true, pure_bind, StateT.run_pure]
    refine fin (SortSt.mk' general' (keys.zip vs.toArray) #[] 7 none) rfl (Array.Perm.refl _) (fun i j h1 h2 => ?_) (Stable.refl _)
    obtain rfl : i = j := by omega
    exact KeyOrd.kle_refl _
  | inr two =>
    have c : ¬ vs.toArray.size < 2 := by simpa using two
    simp only [c, if_false]
    refine wpAny_bind (g2 (by simpa [hn] using two) _ (wpAny_bind (wpAny_mono (H.wpS_sortRunsSt (κ := κ) (kd := kd) (a₀ := keys.zip vs.toArray) (st := SortSt.mk' kd (keys.zip vs.toArray) #[] 7 none)
      (Q := fun _ z => failedOf z = none ∧ (arrOf z).Perm (keys.zip vs.toArray) ∧ SortedToK κ (arrOf z) vs.length ∧ Stable κ (arrOf z) (keys.zip vs.toArray)) g1 kz ⟨Array.Perm.refl _, rfl, rfl⟩ rfl (Stable.refl _) (by omega)
      fun z p1 p2 p3 p4 => ⟨p2, p1, by rw [← len]; exact p3, p4⟩) (fun r s' q => ?_) fun _ _ x => x)))
    obtain ⟨⟨⟩, z⟩ := r
    obtain ⟨rfl, q0, q1, q2, q3⟩ := q
    exact fin z q0 q1 q2 q3
end
/-- an object of ours that was not told is told from now on -/
theorem inv_know {X : Cx} {pins : List (Addr × Obj)} {σ : L2.St} {H : Hp} {s : Shared} {a : Addr} {o : HO} (I : Inv X pins σ H s) (hn : H a = none) (hL : a ≠ X.env.locals) (h1 : X.s_0.heap.objs.size ≤ a) (h2 : ∀ x c, X.env.cells.lookup x = some c → c ≠ a) (h3 : ∀ p ∈ X.pn ++ pins, p.1 ≠ a)
    (new : ObjOk X.prog X.w (upd H a o) s.heap a o) : Inv X pins σ (upd H a o) s := by
  have ne : ∀ b u, H b = some u → b ≠ a := fun b u e z => by rw [z, hn] at e; cases e
  have st : ∀ b u, H b = some u → upd H a o b = some u := fun b u e => by rw [upd_ne (ne b u e)]; exact e
  have hok : HOk X.prog X.w (upd H a o) s.heap := fun b u e => by
    by_cases z : b = a
    · subst z; rw [upd_same] at e; cases e; exact new
    · rw [upd_ne z] at e
      exact (I.hok b u e).stay (fun c v _ q => q) (fun c q => st c _ q) fun c _ q => st c _ q
  have hch : ∀ b ∈ [a], (b ∈ X.ex ∨ X.s_0.heap.objs.size ≤ b) ∧ b ≠ X.env.locals ∧ (∀ x c, X.env.cells.lookup x = some c → c ≠ b) ∧ ∀ p ∈ X.pn ++ pins, p.1 ≠ b := fun b hb => by
    have e : b = a := by simpa using hb
    subst e
    exact ⟨.inr h1, hL, h2, h3⟩
  exact I.step (h' := s.heap) (H' := upd H a o) (g' := s.gens) (d' := s.drawn) (t' := s.toks) (ch := [a]) hch
    (fun b o _ _ _ e _ => e) (fun b o _ _ _ e _ => ⟨o.slots, e⟩) (fun b o' hc e n => by rw [upd_ne (fun z => hc (by simp [z]))]; exact n) (fun b o _ e => ⟨o, e⟩)
    (fun b xs e => st b _ e) (fun b _ _ e => st b _ e) (fun b ps e => ⟨#[], by rw [st b _ e]; simp⟩) (fun m hm => hm) hok I.bare
def tKeys (sp : Sp) : List V → List V → Hp → (List V → Hp → Prop) → Prop
  | [], ks, H, Q => Q ks H
  | x :: xs, ks, H, Q => sp [x] H (fun k H1 => tKeys sp xs (ks ++ [k]) H1 Q) E0
def keyOut (xs : List V) (kz : List PyData) : List V := ((xs.zip kz).mergeSort (PySem.W.dataLe false (·.2))).map (·.1)
theorem each_of_reads {h : Heap} : ∀ {us : List Value} {ds : List PyData} {as : List Addr}, ReadsAll h us ds as → PySem.W.EachIs (fun v d => ∃ as, Reads h v d as) us ds
  | _, _, _, .nil => .nil
  | _, _, _, .cons r t => .cons ⟨_, r⟩ (each_of_reads t)
theorem each_zip {xs : List V} {kz : List PyData} : ∀ {us : List Value}, Vals xs us → xs.length = kz.length → PySem.W.EachIs (fun u (p : V × PyData) => RelV p.1 u) us (xs.zip kz) := by
  induction xs generalizing kz with
  | nil => intro us r _; cases r; exact .nil
  | cons x xs ih =>
    intro us r hl
    cases r with
    | cons r1 r2 =>
      cases kz with
      | nil => simp at hl
      | cons k kz => exact .cons r1 (ih r2 (by simpa using hl))
theorem vals_each : ∀ {us : List Value} {ps : List (V × PyData)}, PySem.W.EachIs (fun u (p : V × PyData) => RelV p.1 u) us ps → Vals (ps.map (·.1)) us
  | _, _, .nil => .nil
  | _, _, .cons h t => .cons h (vals_each t)
section
variable {X : Cx} {f : Addr} {fd : FuncData} {pr : Str} {sp : Sp} {k : Nat}
/-- sorted of a list or a tuple: a new list is sorted -/
theorem own_sorted {prog : Program} {w : World} {A : Around} {E : Value → Shared → Prop} {s : Shared} {l : Addr} {vs : List Value} {T : String} {o : Obj} {n : Nat} {kw : List (Str × Value)} {Q : Value → Shared → Prop} (hT : T = "list" ∨ T = "tuple") (ho : s.heap.get? l = some o) (hc : o.cls = .type T) (hd : o.data = .seq vs.toArray n) (few : vs.length ≤ sizeLine)
    (h1 : argsOk "sorted" ⟨[.ref l], kw⟩) (h2 : ∀ x, argsOk "list.sort" ⟨[.ref x], kw⟩)
    (go : ∀ (g : Heap) (E' : Value → Shared → Prop), (∀ b o', s.heap.get? b = some o' → g.get? b = some o') → wpAny (model prog w) A.in1.in1 (Builtin.«list.sort» ⟨[.ref g.objs.size], kw⟩) (fun f s' => f = .done (.ret .none) ∧ Q (.ref g.objs.size) s') E' { s with heap := g.push (seqObj "list" vs.toArray 0) }) :
    wpAny (model prog w) A (call (.builtin "sorted") [.ref l] kw) Q E s := by
  refine PyProof.Rows.call_function_entry_kw kind_sorted plain_sorted entry_sorted h1 ?_
  unfold Builtin.«sorted»; refine wpAny_bind (m := checkCount "sorted" 1 1 _) (wpAny_pure ?_)
  refine wpAny_bind (wpAny_collect_seq l hT ho hc hd (fun g hg => ?_) (by rw [List.size_toArray]; exact few))
  refine wpAny_bind (wpAny_newList ?_ few)
  refine wpAny_bind (wpAny_holding (PyProof.Rows.wpAny_call_entry_kw slot_list_sort ⟨_, Heap.get?_push_size _ rfl, rfl⟩ entry_list_sort ?b (h2 _)))
  case b => exact wpAny_mono (go g _ hg) (fun f s' hf => by obtain ⟨rfl, hq⟩ := hf; exact ⟨_, rfl, wpAny_pure ⟨_, rfl, hq⟩⟩) fun _ _ e => e
/-- the sorting itself, on a new list -/
theorem sortK_coreV {pins : List (Addr × Obj)} {σ : L2.St} {H : Hp} {s : Shared} {Q : VK} {xs : List V} {its : List Value} {E' : Value → Shared → Prop} (fv : Value) (htree : ∀ a : Addr, Builtin.«list.sort» ⟨[.ref a], [(Str.ofString "key", fv)]⟩ = ksk_tree a fv false)
    (run : ∀ (pins : List (Addr × Obj)) (H : Hp) (s : Shared) (Q : VK) (x : V) (u : Value), Inv X pins σ H s → RelV x u → sp [x] H Q E0 → wpAny (model X.prog X.w) X.A.in1.in1 (call fv [u]) (EP X pins σ Q) (fun _ _ => False) s)
    (hr : Room (k + 2) X.A) (I : Inv X pins σ H s) (rv : Vals xs its) (hz' : its.length ≤ sizeLine)
    (h : tKeys sp xs [] H fun ks H1 => ∃ kz, DpAll X.K H1 ks kz ∧ PySem.W.AllAlike kz ∧ PySem.W.Sortable kz ∧ (∀ d ∈ kz, d.depth ≤ 8) ∧ ∀ p, H1 p = none → Q (.ref p) (upd H1 p (.lst (keyOut xs kz)))) :
    wpAny (model X.prog X.w) X.A.in1.in1 (Builtin.«list.sort» ⟨[.ref s.heap.objs.size], [(Str.ofString "key", fv)]⟩) (fun r s' => r = .done (.ret .none) ∧ EP X pins σ Q (.ref s.heap.objs.size) s') E' { s with heap := s.heap.push (seqObj "list" its.toArray 0) } := by
  rw [htree]
  have hold : ∀ b o, s.heap.get? b = some o → (s.heap.push (seqObj "list" its.toArray 0)).get? b = some o := fun _ _ q => Heap.get?_push_of_some _ q
  have hna : (s.heap.push (seqObj "list" its.toArray 0)).get? s.heap.objs.size = some (seqObj "list" its.toArray 0) := Heap.get?_push_size _ rfl
  have hca : (s.heap.push (seqObj "list" its.toArray 0)).objs.size = s.heap.objs.size + 1 := size_push' ..
  generalize hA : s.heap.objs.size = a at hna ⊢
  generalize s.heap.push (seqObj "list" its.toArray 0) = hc at hold hna hca ⊢
  have s1 := Heap.SameBut.update hc a (Obj.mapSeq fun _ => (#[] : Array Value))
  obtain ⟨e1, ho1⟩ : ∃ e1, (hc.update a (Obj.mapSeq fun _ => (#[] : Array Value))).get? a = some (seqObj "list" #[] e1) := ⟨_, get?_update_seq hna fun _ => #[]⟩
  unfold ksk_tree
  refine wpAny_bind (listItems_at hna rfl ?_)
  refine wpAny_bind (listUpdate_at hna rfl ?_ (by rw [List.size_toArray]; exact hz') (Nat.zero_le _))
  refine wpAny_bind (seqEpoch_at ho1 rfl ?_)
  refine wpAny_bind (wpAny_newTuple ?_ (by exact hz'))
  refine wpAny_bind (wpAny_newList ?_ (Nat.zero_le _))
  refine wpAny_holding ?_
  have hkS : ((hc.update a (Obj.mapSeq fun _ => (#[] : Array Value))).push (seqObj "tuple" its.toArray 0)).objs.size = s.heap.objs.size + 2 := by rw [size_push', Heap.size_update, hca]
  show wpAny _ _ (ksk_rest a fv false its.toArray e1 (.ref ((hc.update a (Obj.mapSeq fun _ => (#[] : Array Value))).push (seqObj "tuple" its.toArray 0)).objs.size)) _ _ { s with heap := (((hc.update a (Obj.mapSeq fun _ => (#[] : Array Value))).push (seqObj "tuple" its.toArray 0)).push (seqObj "list" #[] 0)) }
  have hkA : (((hc.update a (Obj.mapSeq fun _ => (#[] : Array Value))).push (seqObj "tuple" its.toArray 0)).push (seqObj "list" #[] 0)).get? (s.heap.objs.size + 2) = some (seqObj "list" #[] 0) := by
    rw [← hkS]; exact Heap.get?_push_size _ rfl
  have hAa : (((hc.update a (Obj.mapSeq fun _ => (#[] : Array Value))).push (seqObj "tuple" its.toArray 0)).push (seqObj "list" #[] 0)).get? a = some (seqObj "list" #[] e1) :=
    Heap.get?_push_of_some _ (Heap.get?_push_of_some _ ho1)
  have hO : ∀ b o, s.heap.get? b = some o → (((hc.update a (Obj.mapSeq fun _ => (#[] : Array Value))).push (seqObj "tuple" its.toArray 0)).push (seqObj "list" #[] 0)).get? b = some o := fun b o q =>
    Heap.get?_push_of_some _ (Heap.get?_push_of_some _ ((s1.2 b (Nat.ne_of_lt (by have := Heap.lt_size q; rw [← hA]; exact this))).trans (hold b o q)))
  rw [hkS]
  generalize (((hc.update a (Obj.mapSeq fun _ => (#[] : Array Value))).push (seqObj "tuple" its.toArray 0)).push (seqObj "list" #[] 0)) = h1 at hkA hAa hO ⊢
  generalize hK : s.heap.objs.size + 2 = kS at hkA ⊢
  have hka : kS ≠ a := by omega
  have young : ∀ c, s.heap.objs.size ≤ c → c ≠ X.env.locals ∧ X.s_0.heap.objs.size ≤ c ∧ (∀ x d, X.env.cells.lookup x = some d → d ≠ c) ∧ (∀ p ∈ X.pn ++ pins, p.1 ≠ c) ∧ c ∉ X.fs := fun c hc => by
    refine ⟨Nat.ne_of_gt (Nat.lt_of_lt_of_le I.lt hc), Nat.le_trans I.sz hc, fun x d e z => ?_, fun p hp z => ?_, I.nofs hc⟩
    · obtain ⟨v, o, ho, _⟩ := I.cell x d e
      have := Heap.lt_size ho
      rw [z] at this
      exact absurd this (Nat.not_lt.mpr hc)
    · have := Heap.lt_size (I.pin p hp).1
      rw [z] at this
      exact absurd this (Nat.not_lt.mpr hc)
  have ya := young a (by omega)
  have yk := young kS (by omega)
  have I1 : Inv X pins σ H { s with heap := h1 } := I.kept (t' := s.toks) hO
  have Ha : H a = none := I.hok.fresh (by omega)
  have Hk : H kS = none := I.hok.fresh (by omega)
  unfold ksk_rest
  refine wpAny_bind (wpAny_rule ?_)
  first
    | rw [List.forIn_toArray]
    | (rw [← Array.forIn_toList]; simp only [List.toList_toArray])
    | rw [← Array.forIn_toList]
  refine wpAny_bind (ksk_fold (fun i s' => ∃ H' kA e ks, Inv X ((a, seqObj "list" #[] e1) :: (kS, seqObj "list" kA e) :: pins) σ H' s' ∧ Vals ks kA.toList ∧ ks.length = i ∧ tKeys sp (xs.drop i) ks H' fun ks H1 => ∃ kz, DpAll X.K H1 ks kz ∧ PySem.W.AllAlike kz ∧ PySem.W.Sortable kz ∧ (∀ d ∈ kz, d.depth ≤ 8) ∧ ∀ p, H1 p = none → Q (.ref p) (upd H1 p (.lst (keyOut xs kz)))) its 0 { s with heap := h1 }
    ⟨H, #[], 0, [], ?init, .nil, rfl, by simpa using h⟩ ?step ?done)
  case init =>
    refine I1.pins_of fun p hp => ?_
    rcases List.mem_cons.mp hp with rfl | hp
    · exact ⟨hAa, Ha, ya.1, ya.2.2.2.2, fun v hv => by cases hv⟩
    · rcases List.mem_cons.mp hp with rfl | hp
      · exact ⟨hkA, Hk, yk.1, yk.2.2.2.2, fun v hv => by cases hv⟩
      · exact I1.pin p (List.mem_append_right _ hp)
  case step =>
    rintro j x s' hx ⟨H', kA, e, ks, I', rk, hkl, ht⟩
    simp only [Nat.zero_add] at hkl ht ⊢
    have hjl : j < xs.length := by rw [rv.length]; exact (List.getElem?_eq_some_iff.mp hx).1
    obtain ⟨y, hy⟩ : ∃ y, xs[j]? = some y := ⟨_, List.getElem?_eq_getElem hjl⟩
    obtain ⟨u0, hu0, ry⟩ := rv.get hy
    rw [hx] at hu0
    cases hu0
    have ed : xs.drop j = y :: xs.drop (j + 1) := by
      rw [List.drop_eq_getElem_cons (List.getElem?_eq_some_iff.mp hy).1, (List.getElem?_eq_some_iff.mp hy).2]
    rw [ed] at ht
    refine wpAny_bind (wpAny_attempt (wpAny_mono (run _ _ _ _ _ _ I' ry ht) (fun v s'' he => ?_) fun _ _ hF => hF.elim))
    obtain ⟨kv, H2, I2, rkv, ht2⟩ := he
    try dsimp only
    have pa := I2.pin (a, seqObj "list" #[] e1) (List.mem_append_right _ (.head _))
    have pk := I2.pin (kS, seqObj "list" kA e) (List.mem_append_right _ (.tail _ (.head _)))
    have s1 := Heap.SameBut.update s''.heap kS (Obj.mapSeq (·.push v))
    obtain ⟨c2, hc2⟩ : ∃ c2, (s''.heap.update kS (Obj.mapSeq (·.push v))).get? kS = some (seqObj "list" (kA.push v) c2) := ⟨_, get?_update_seq pk.1 (·.push v)⟩
    have hjx : j < its.length := (List.getElem?_eq_some_iff.mp hx).1
    have hks : kA.size = j := by
      have h9 : ks.length = kA.toList.length := rk.length
      rw [Array.length_toList] at h9
      exact h9.symm.trans hkl
    refine wpAny_bind (listUpdate_at pk.1 rfl ?_ (by omega) (Nat.le_trans (Nat.le_of_eq (Array.size_push ..)) (by omega)))
    refine wpAny_pure ⟨rfl, H2, kA.push v, c2, ks ++ [kv], ?_, by rw [Array.toList_push]; exact rk.append (.cons rkv .nil), by simp [hkl], ht2⟩
    have I3 : Inv X pins σ H2 s'' := I2.pins_of fun p hp => I2.pin p (List.mem_append_right _ (.tail _ (.tail _ hp)))
    have I4 : Inv X pins σ H2 { s'' with heap := s''.heap.update kS (Obj.mapSeq (·.push v)) } := I3.turned (t' := s''.toks) (it := kS) (fun b o hb q => (s1.2 b hb).trans q) pk.2.1 yk.1 (.inr yk.2.1) yk.2.2.1 yk.2.2.2.1
    refine I4.pins_of fun p hp => ?_
    rcases List.mem_cons.mp hp with rfl | hp
    · exact ⟨(s1.2 a hka.symm).trans pa.1, pa.2⟩
    · rcases List.mem_cons.mp hp with rfl | hp
      · exact ⟨hc2, pk.2.1, yk.1, yk.2.2.2.2, fun v hv => by cases hv⟩
      · exact I4.pin p (List.mem_append_right _ hp)
  case done =>
    rintro s' ⟨H', kA, e, ks, I', rk, hkl, ht⟩
    have hxl : xs.length = its.length := rv.length
    rw [show xs.drop (0 + its.length) = [] by rw [List.drop_eq_nil_iff]; omega] at ht
    obtain ⟨kz, hd, hal, hsk, hdp, q⟩ := ht
    have pa := I'.pin (a, seqObj "list" #[] e1) (List.mem_append_right _ (.head _))
    have pk := I'.pin (kS, seqObj "list" kA e) (List.mem_append_right _ (.tail _ (.head _)))
    obtain ⟨as, hr2⟩ := Dp.readsAll I' kz ks kA.toList hd rk
    have hE := each_of_reads hr2
    have hks : kA.size = its.length := by
      have h9 : ks.length = kA.toList.length := rk.length
      rw [Array.length_toList] at h9
      exact h9.symm.trans (hkl.trans (Nat.zero_add _))
    have hkz : xs.length = kz.length := by
      have h1 := hE.length
      rw [Array.length_toList] at h1
      omega
    refine wpAny_bind (listItems_at pk.1 rfl ?_)
    refine own_end (κ := PySem.W.dataKind s'.heap kz) pk.1 pa.1 hka (PySem.W.SortsAt.data hE hal hsk fun d hdm => ?_) hks hz' fun h2 h3 c k2 k3 ha3 => ⟨rfl, ?_⟩
    · have := hdp d hdm
      have := hr.un
      show X.A.units + 1 + 1 + d.depth < cLine
      omega
    · have I3 : Inv X pins σ H' s' := I'.pins_of fun p hp => I'.pin p (List.mem_append_right _ (.tail _ (.tail _ hp)))
      have I4 : Inv X pins σ H' { s' with heap := h2 } := I3.turned (t' := s'.toks) (it := kS) k2 pk.2.1 yk.1 (.inr yk.2.1) yk.2.2.1 yk.2.2.2.1
      have I5 : Inv X pins σ H' { s' with heap := h3 } := Inv.turned (s := { s' with heap := h2 }) (h' := h3) I4 (t' := s'.toks) (it := a) k3 pa.2.1 ya.1 (.inr ya.2.1) ya.2.2.1 ya.2.2.2.1
      have hout := PySem.W.keyedOut_each (β := V × PyData) (R := fun u p => RelV p.1 u) (bs := xs.zip kz) (rev := false) (vs := its) (out := PySem.W.sortVals (PySem.W.dataKind s'.heap kz) false kA.toList its) (·.2)
        (by rw [List.map_snd_zip (by omega)]; exact ⟨s'.heap, kA.toList, hal, rfl, hE⟩) (each_zip rv hkz)
      have hv := vals_each hout
      have hlen : (keyOut xs kz).length ≤ sizeLine := by
        unfold keyOut
        rw [List.length_map, List.length_mergeSort, List.length_zip]
        omega
      exact ⟨.ref a, upd H' a (.lst (keyOut xs kz)), inv_know I5 pa.2.1 ya.1 ya.2.1 ya.2.2.1 ya.2.2.2.1 ⟨hlen, _, c, hv, ha3⟩, rfl, q a pa.2.1⟩
end
end DL

set_option Elab.async false
set_option linter.all false
set_option maxRecDepth 100000
set_option maxHeartbeats 4000000
set_option autoImplicit false
namespace DL
open PySem PySem.Spec PyProof.Rows L2
/-! ### sorted(xs, key=f), by data: keys that are a number and a text -/
def ltK (a b : Int × Str) : Bool := decide (a.1 < b.1) || (decide (a.1 = b.1) && sLt a.2 b.2)
def leK (a b : Int × Str) : Bool := !ltK b a
def keyP : D → Option (Int × Str)
  | .tup [.int i, .str x] => some (i, x)
  | _ => none
def keysP : List D → Option (List (Int × Str))
  | [] => some []
  | d :: ds => match keyP d, keysP ds with | some k, some ks => some (k :: ks) | _, _ => none
def pyK (k : Int × Str) : PyData := .tuple [.int k.1, .str k.2]
theorem keyP_some {d : D} {k : Int × Str} (h : keyP d = some k) : d = .tup [.int k.1, .str k.2] := by
  unfold keyP at h
  split at h
  · cases h; rfl
  · cases h
theorem keysP_py : ∀ {ds : List D} {ks : List (Int × Str)}, keysP ds = some ks → toPys ds = some (ks.map pyK)
  | [], ks, h => by simp only [keysP] at h; cases h; rfl
  | d :: ds, ks, h => by
    simp only [keysP] at h
    split at h
    · rename_i k ks' e1 e2
      cases h
      rw [keyP_some e1]
      simp only [toPys, toPy, keysP_py e2, Option.map_some, List.map_cons, pyK]
    · cases h
theorem keysP_len : ∀ {ds : List D} {ks : List (Int × Str)}, keysP ds = some ks → ks.length = ds.length
  | [], ks, h => by simp only [keysP] at h; cases h; rfl
  | d :: ds, ks, h => by
    simp only [keysP] at h
    split at h
    · rename_i k ks' e1 e2
      cases h
      simp only [List.length_cons, keysP_len e2]
    · cases h
theorem lex_pyK (a b : Int × Str) : PyProof.Rows.lexLt itemOrd (PySem.W.keyToks (pyK a)) (PySem.W.keyToks (pyK b)) = ltK a b := by
  obtain ⟨i, x⟩ := a
  obtain ⟨j, y⟩ := b
  have e : PyProof.Rows.lexLt itemOrd (PySem.W.keyToks (pyK (i, x))) (PySem.W.keyToks (pyK (j, y))) = (decide ((1:Int) < 1) || (!decide ((1:Int) < 1) && (decide (i < j) || (!decide (j < i) && (decide ((1:Int) < 1) || (!decide ((1:Int) < 1) && (decide (x.cps.toList < y.cps.toList) || (!decide (y.cps.toList < x.cps.toList) && (decide ((0:Int) < 0) || (!decide ((0:Int) < 0) && false)))))))))) := rfl
  rw [e]
  simp only [ltK, sLt]
  by_cases h1 : i < j
  · simp [h1]
  · by_cases h2 : i = j
    · subst h2
      simp
    · have : j < i := by omega
      simp [h1, h2, this]
theorem dataLe_pyK {α : Type} (p q : α × (Int × Str)) : PySem.W.dataLe false (fun z : α × PyData => z.2) (p.1, pyK p.2) (q.1, pyK q.2) = leK p.2 q.2 := by
  show (!(PyProof.Rows.lexLt itemOrd (PySem.W.keyToks (pyK q.2)) (PySem.W.keyToks (pyK p.2)))) = _
  rw [lex_pyK]
  rfl
def sortK {α : Type} (xs : List α) (kz : List (Int × Str)) : List α := ((xs.zip kz).mergeSort fun p q => leK p.2 q.2).map (·.1)
theorem zip_map_r {α β γ : Type} (f : β → γ) : ∀ (xs : List α) (ys : List β), xs.zip (ys.map f) = (xs.zip ys).map fun p => (p.1, f p.2)
  | [], _ => by simp
  | _ :: _, [] => by simp
  | x :: xs, y :: ys => by simp [zip_map_r f xs ys]
theorem keyOut_eq (xs : List V) (kz : List (Int × Str)) : keyOut xs (kz.map pyK) = sortK xs kz := by
  unfold keyOut sortK
  rw [zip_map_r, ← List.map_mergeSort (r := fun p q => leK p.2 q.2) (f := fun p : V × (Int × Str) => (p.1, pyK p.2)) (fun a _ b _ => (dataLe_pyK a b).symm), List.map_map]
  rfl
theorem rds_pairs {K : PySem.W.Frag} {H : Hp} {N : Ns} {α : Type} (f : α → D) (g : α → V) : ∀ L : List α, (∀ p ∈ L, RD K H N (f p) (g p)) → RDs K H N (L.map f) (L.map g)
  | [], _ => RDs.nil
  | p :: L, h => RDs.cons (h p (List.mem_cons_self ..)) (rds_pairs f g L fun q hq => h q (List.mem_cons_of_mem _ hq))
theorem rds_zip {K : PySem.W.Frag} {H : Hp} {N : Ns} : ∀ {ds : List D} {vs : List V}, RDs K H N ds vs → ∀ p ∈ ds.zip vs, RD K H N p.1 p.2
  | [], _, _, p, hp => by cases hp
  | d :: ds, _, r, p, hp => by
    obtain ⟨v, vs, rfl, r1, r2⟩ := r.of_cons
    rcases List.mem_cons.mp hp with rfl | hp
    · exact r1
    · exact rds_zip r2 p hp
theorem sortK_proj {α β : Type} (f : α → β) (L : List α) (kz : List (Int × Str)) : (sortK L kz).map f = sortK (L.map f) kz := by
  unfold sortK
  rw [List.map_map]
  have : (L.map f).zip kz = (L.zip kz).map fun p => (f p.1, p.2) := by
    rw [List.zip_map_left]; rfl
  rw [this, ← List.map_mergeSort (r := fun p q : α × (Int × Str) => leK p.2 q.2) (f := fun p : α × (Int × Str) => (f p.1, p.2)) (fun a _ b _ => rfl), List.map_map]
  rfl
theorem sortK_perm {α : Type} {xs : List α} {kz : List (Int × Str)} (h : xs.length ≤ kz.length) : (sortK xs kz).Perm xs := by
  unfold sortK
  refine ((List.mergeSort_perm _ _).map _).trans ?_
  rw [List.map_fst_zip h]
theorem rds_sortK {K : PySem.W.Frag} {H : Hp} {N : Ns} {ds : List D} {vs : List V} {kz : List (Int × Str)} (r : RDs K H N ds vs) (hl : ds.length ≤ kz.length) : RDs K H N (sortK ds kz) (sortK vs kz) := by
  have h1 : (ds.zip vs).map (·.1) = ds := List.map_fst_zip (Nat.le_of_eq r.length)
  have h2 : (ds.zip vs).map (·.2) = vs := List.map_snd_zip (Nat.le_of_eq r.length.symm)
  have e1 := sortK_proj (·.1) (ds.zip vs) kz
  have e2 := sortK_proj (·.2) (ds.zip vs) kz
  rw [h1] at e1
  rw [h2] at e2
  rw [← e1, ← e2]
  refine rds_pairs _ _ _ fun p hp => rds_zip r p ?_
  refine (sortK_perm ?_).mem_iff.mp hp
  rw [List.length_zip]
  omega
def dKeys (sp : DSp) : List D → List D → Gp → (List D → Gp → Prop) → Prop
  | [], ks, G, Q => Q ks G
  | x :: xs, ks, G, Q => sp [x] G (fun k G1 => dKeys sp xs (ks ++ [k]) G1 Q)
theorem seqOf_of_lst {G : Gp} {x : D} {ds : List D} (h : lstOf G x = some ds) : seqOf G x = some ds := by
  cases x <;> first | exact h | (simp [lstOf] at h)
def dSortK1 (mk : Bool) (sp : DSp) (x : D) (G1 : Gp) (R : DK) : Prop := match seqOf G1 x with
  | some ds => dKeys sp ds [] G1 fun ks G2 => (match keysP ks with | some kz => ks.length = ds.length ∧ newL mk (sortK ds kz) G2 R | none => False)
  | none => False
def dSortK (mk : Bool) (sp : DSp) (te : DE) : DE := fun σ G R => te σ G fun x G1 => dSortK1 mk sp x G1 R
end DL

set_option Elab.async false
set_option linter.all false
set_option maxRecDepth 100000
set_option maxHeartbeats 4000000
set_option autoImplicit false
namespace DL
open PySem PySem.Spec PyProof.Rows L2
/-! ### methods, of tuples of texts too -/
theorem room100 {k : Nat} {A : Around} (r : Room k A) : A.units + 100 < cLine := by have := r.un; omega
section
variable {X : Cx}
def mtyX (G : Gp) : D → Option String
  | .nt _ => some "tuple"
  | d => mty G d
variable {o e : Expr} {es : List Expr} {to : DE} {t : DA} {name : Str} {apos cpos : Pos} {T id : String} {r : D → List D → Gp → DK → Prop}
def dMX (T : String) (r : D → List D → Gp → DK → Prop) (to : DE) (t : DA) : DE := fun σ G R => to σ G fun x G1 => mtyX G1 x = some T ∧ t σ G1 fun xs G2 => r x xs G2 R
end
section
variable {X : Cx}
theorem pure_list {ds : List D} (h : pyDs ds = true) : ∃ as, toPys ds = some as ∧ PyData.plainAll as = true := by
  obtain ⟨as, h1, h2, _⟩ := toPys_pure h
  exact ⟨as, h1, PyData.plainAll_of_canLay0 as h2⟩
theorem pure_one {d : D} (h : pyD d = true) : ∃ a, toPy d = some a ∧ a.plain = true ∧ a.depth = depD d := by
  obtain ⟨a, h1, h2, h3⟩ := toPy_pure h
  exact ⟨a, h1, PyData.plain_of_canLay0 a h2, h3⟩
theorem toPys_map {ds : List D} {as : List PyData} (h : toPys ds = some as) : ∀ {x : D} {a : PyData} (f : Bool → Nat), toPy x = some a → as.map (fun z => PyData.eqv z a) = ds.map fun z => eqD z x := by
  induction ds generalizing as with
  | nil => intro x a f hx; simp only [toPys] at h; cases h; rfl
  | cons d ds ih =>
    intro x a f hx
    simp only [toPys] at h
    split at h
    · rename_i b bs e1 e2
      cases h
      simp only [List.map_cons, ih e2 f hx, eqv_eqD e1 hx]
    · cases h
theorem any_map' {α : Type} (p : α → Bool) (l : List α) : l.any p = (l.map p).any id := by rw [List.any_map]; rfl
theorem findIdx?_map' {α : Type} (p : α → Bool) (l : List α) : l.findIdx? p = (l.map p).findIdx? id := by rw [List.findIdx?_map]; rfl
/-! ### in, of data -/
def dInE (f : Bool → Bool) : DR2 := fun x y G R => match x, y with
  | .str a, .str b => dInW f (.str a) (.str b) G R
  | x, y => match seqOf G y with | some ds => pyD x = true ∧ pyDs ds = true ∧ depD x ≤ 60 ∧ R (.bl (f (ds.any fun z => eqD z x))) G | none => False
theorem in_dataV {op : CmpOp} {f : Bool → Bool} (hu : X.A.units + 100 < cLine)
    (hL : ∀ {s : Shared} {c x : Value} {xs : List PyData} {d : PyData} {as bs : List Addr} {Q : Value → Shared → Prop}, Reads s.heap c (.list xs) as → Reads s.heap x d bs → PyData.plainAll xs = true → d.plain = true → X.A.units + 1 + min (PyData.depthAll xs) d.depth < cLine → Q (.bool (f (xs.any fun y => PyData.eqv y d))) s → wpAny (model X.prog X.w) X.A (compareOp op x c) Q X.xe s)
    (hT : ∀ {s : Shared} {c x : Value} {xs : List PyData} {d : PyData} {as bs : List Addr} {Q : Value → Shared → Prop}, Reads s.heap c (.tuple xs) as → Reads s.heap x d bs → PyData.plainAll xs = true → d.plain = true → X.A.units + 1 + min (PyData.depthAll xs) d.depth < cLine → Q (.bool (f (xs.any fun y => PyData.eqv y d))) s → wpAny (model X.prog X.w) X.A (compareOp op x c) Q X.xe s) :
    OpR X (compareOp op) (upR2 X.K fun x y G R => match seqOf G y with | some ds => pyD x = true ∧ pyDs ds = true ∧ depD x ≤ 60 ∧ R (.bl (f (ds.any fun z => eqD z x))) G | none => False) := by
  intro pins s σ H x y v u Q I rx ry h
  obtain ⟨c, d, G, N, R, r1, r2, rg, h, q⟩ := h
  split at h
  · rename_i ds e
    obtain ⟨h1, h2, h3, h4⟩ := h
    obtain ⟨a, ea, pa, da⟩ := pure_one h1
    obtain ⟨as, es, ps⟩ := pure_list h2
    obtain ⟨_, rx'⟩ := Dp.reads I a x v (toPy_ok r1 ea) rx
    obtain ⟨p, vs, rfl, sq, rds⟩ := seqOf_ok rg r2 e
    have hroom : X.A.units + 1 + min (PyData.depthAll as) a.depth < cLine := by have := Nat.min_le_right (PyData.depthAll as) a.depth; omega
    have hres : (as.any fun y => PyData.eqv y a) = ds.any fun z => eqD z c := by rw [any_map', toPys_map es (fun _ => 0) ea, ← any_map']
    have fin : EP X pins σ Q (.bool (f (as.any fun y => PyData.eqv y a))) s := ⟨.bl _, H, I, rfl, by rw [hres]; exact q.at rg h4 (RD.bl _)⟩
    rcases sq with sq | sq
    · obtain ⟨_, ry'⟩ := Dp.reads I (.list as) (.ref p) u (.lst sq (toPys_ok rds es)) ry
      exact hL ry' rx' ps pa hroom fin
    · obtain ⟨_, ry'⟩ := Dp.reads I (.tuple as) (.ref p) u (.tup sq (toPys_ok rds es)) ry
      exact hT ry' rx' ps pa hroom fin
  · exact h.elim
theorem inE_of {f : Value → Value → Sem Value} {g : Bool → Bool} (h1 : OpD X f (dInW g)) (h2 : OpR X f (upR2 X.K fun x y G R => match seqOf G y with | some ds => pyD x = true ∧ pyDs ds = true ∧ depD x ≤ 60 ∧ R (.bl (g (ds.any fun z => eqD z x))) G | none => False)) : OpD X f (dInE g) :=
  opr_mono (OpR.or h1 h2) fun x y H Q h => by
    obtain ⟨c, d, G, N, R, r1, r2, rg, h, q⟩ := h
    unfold dInE at h
    split at h
    · exact .inl ⟨_, _, G, N, R, r1, r2, rg, h, q⟩
    · exact .inr ⟨c, d, G, N, R, r1, r2, rg, h, q⟩
theorem od_inE (hu : X.A.units + 100 < cLine) : OpD X (compareOp .In) (dInE id) := inE_of od_in (in_dataV hu (fun a b c d e h => SeqAt.in_list_data a b c d e h) fun a b c d e h => SeqAt.in_tuple_data a b c d e h)
theorem od_notInE (hu : X.A.units + 100 < cLine) : OpD X (compareOp .NotIn) (dInE not) := inE_of od_notIn (in_dataV hu (fun a b c d e h => SeqAt.notIn_list_data a b c d e h) fun a b c d e h => SeqAt.notIn_tuple_data a b c d e h)
/-! ### the order of data -/
def dCmpE (pi : Int → Int → Bool) (ps : Str → Str → Bool) (pk : Bool → Bool → Bool) : DR2 := fun x y G R => match x, y with
  | .int i, .int j => R (.bl (pi i j)) G
  | .str a, .str b => R (.bl (ps a b)) G
  | x, y => match toPy x, toPy y with | some a, some b => PySem.W.alike a b = true ∧ a ≠ .none ∧ a.depth ≤ 60 ∧ R (.bl (pk (PySem.W.dataLt a b) (PySem.W.dataLt b a))) G | _, _ => False
theorem cmpE_of {f : Value → Value → Sem Value} {pi : Int → Int → Bool} {ps : Str → Str → Bool} {pk : Bool → Bool → Bool} (hu : X.A.units + 100 < cLine) (h1 : OpD X f (dOrd pi ps))
    (h2 : ∀ {s : Shared} {a b : Value} {da db : PyData} {as bs : List Addr} {Q : Value → Shared → Prop}, Reads s.heap a da as → Reads s.heap b db bs → PySem.W.alike da db = true → da ≠ .none → X.A.units + min da.depth db.depth < cLine → Q (.bool (pk (PySem.W.dataLt da db) (PySem.W.dataLt db da))) s → wpAny (model X.prog X.w) X.A (f a b) Q X.xe s) : OpD X f (dCmpE pi ps pk) := by
  have h3 : OpR X f (upR2 X.K fun x y G R => match toPy x, toPy y with | some a, some b => PySem.W.alike a b = true ∧ a ≠ .none ∧ a.depth ≤ 60 ∧ R (.bl (pk (PySem.W.dataLt a b) (PySem.W.dataLt b a))) G | _, _ => False) := by
    intro pins s σ H x y v u Q I rx ry h
    obtain ⟨c, d, G, N, R, r1, r2, rg, h, q⟩ := h
    split at h
    · rename_i a b ea eb
      obtain ⟨h4, h5, h6, h7⟩ := h
      obtain ⟨_, rx'⟩ := Dp.reads I a x v (toPy_ok r1 ea) rx
      obtain ⟨_, ry'⟩ := Dp.reads I b y u (toPy_ok r2 eb) ry
      exact h2 rx' ry' h4 h5 (by have := Nat.min_le_left a.depth b.depth; omega) ⟨.bl _, H, I, rfl, q.at rg h7 (RD.bl _)⟩
    · exact h.elim
  exact opr_mono (OpR.or h1 h3) fun x y H Q h => by
    obtain ⟨c, d, G, N, R, r1, r2, rg, h, q⟩ := h
    unfold dCmpE at h
    split at h
    · exact .inl ⟨_, _, G, N, R, r1, r2, rg, h, q⟩
    · exact .inl ⟨_, _, G, N, R, r1, r2, rg, h, q⟩
    · exact .inr ⟨c, d, G, N, R, r1, r2, rg, h, q⟩
def dLtE : DR2 := dCmpE (fun i j => decide (i < j)) (fun a b => sLt a b) fun l _ => l
theorem od_ltE (hu : X.A.units + 100 < cLine) : OpD X (compareOp .Lt) dLtE := cmpE_of hu od_lt fun a b c d e h => PySem.W.lt_data a b c d e h
theorem ltE_key {i j : Int} {x y : Str} {G : Gp} {R : DK} : dLtE (.tup [.int i, .str x]) (.tup [.int j, .str y]) G R = R (.bl (ltK (i, x) (j, y))) G := by
  have e := lex_pyK (i, x) (j, y)
  show (PySem.W.alike _ _ = true ∧ _ ∧ _ ∧ R (.bl (PySem.W.dataLt (pyK (i, x)) (pyK (j, y)))) G) = _
  rw [show PySem.W.dataLt (pyK (i, x)) (pyK (j, y)) = ltK (i, x) (j, y) from e]
  refine propext ⟨fun h => h.2.2.2, fun h => ⟨rfl, by simp, ?_, h⟩⟩
  simp only [pyK, PyData.depth, PyData.depthAll]
  omega
theorem ltE_ii {i j : Int} {G : Gp} {R : DK} : dLtE (.int i) (.int j) G R = R (.bl (decide (i < j))) G := rfl
theorem ltE_ss {i j : Str} {G : Gp} {R : DK} : dLtE (.str i) (.str j) G R = R (.bl (sLt i j)) G := rfl
/-! ### count, index, remove .. -/
def dIndexL : D → List D → Gp → DK → Prop := fun x xs G R => match xs with
  | [y] => (match lstOf G x with | some ds => pyD y = true ∧ pyDs ds = true ∧ depD y ≤ 60 ∧ (ds.any fun z => eqD z y) = true ∧ R (.int (ds.findIdx fun z => eqD z y : Nat)) G | none => False)
  | _ => False
theorem findIdx_of {α : Type} (p : α → Bool) (l : List α) : (l.map p).findIdx id = l.findIdx p := by rw [List.findIdx_map]; rfl
theorem md_indexL (hu : X.A.units + 100 < cLine) : MtD X "list.index" dIndexL := by
  intro pins s σ H x xs v us Q I rx rxs h
  obtain ⟨c, cs, G, N, R, r1, r2, rg, h, q⟩ := h
  unfold dIndexL at h
  split at h
  · rename_i y
    split at h
    · rename_i ds e
      obtain ⟨h1, h2, h3, h5, h4⟩ := h
      obtain ⟨vy, r, rfl, r3, r4⟩ := r2.of_cons
      obtain rfl := r4.of_nil
      obtain ⟨uy, rfl, ruy⟩ := vals1 rxs
      obtain ⟨p, vs, rfl, sq, rds⟩ := lstOf_ok rg r1 e
      cases rx
      obtain ⟨a, ea, pa, da⟩ := pure_one h1
      obtain ⟨as, es, ps⟩ := pure_list h2
      obtain ⟨_, ry⟩ := Dp.reads I a vy uy (toPy_ok r3 ea) ruy
      obtain ⟨its, rv, ⟨⟨cls, dd, data, sls⟩, n, ho, hc, hdn, hdt⟩, hz⟩ := I.list sq
      simp only at hc hdt
      subst hc hdt
      obtain ⟨az, rl⟩ := Dp.readsAll I as vs its (toPys_ok rds es) rv
      have rl' : ReadsAll s.heap its.toArray.toList as az := by simpa using rl
      have hroom : X.A.units + 1 + min (PyData.depthAll as) a.depth < cLine := by have := Nat.min_le_right (PyData.depthAll as) a.depth; omega
      have hmm := toPys_map es (fun _ => 0) ea
      have hf : as.findIdx (fun z => PyData.eqv z a) = ds.findIdx fun z => eqD z y := by rw [← findIdx_of, hmm, findIdx_of]
      have hany : (as.any fun z => PyData.eqv z a) = true := by rw [any_map', hmm, ← any_map']; exact h5
      have hp : SeqAt.dataPlace as a = some (ds.findIdx fun z => eqD z y) := by
        unfold SeqAt.dataPlace
        rw [← hf, List.findIdx?_eq_some_iff_findIdx_eq]
        refine ⟨List.findIdx_lt_length_of_exists ?_, rfl⟩
        simpa using hany
      obtain ⟨hj, hit, hno⟩ := SeqAt.hit_at rl' ps hp
      have hsl := sizeLine_eq
      refine call_meets PySem.F.slot_list_index ⟨_, ho, rfl⟩ PySem.F.entry_list_index (PySem.F.args_list_index_2 _ _) (SeqAt.list_indexAt p its.toArray n dd sls uy (fun u => PyData.eqv (SeqAt.readOf s.heap u) a) _ hj ?_ hit hno) ⟨ho, SeqAt.items_plain rl' ry ps pa hroom, ⟨.int _, H, I.tok _, ⟨_, rfl⟩, q.at rg h4 (RD.int _)⟩⟩
      have : its.toArray.size ≤ sizeLine := by rw [List.size_toArray, ← rv.length]; exact hz
      omega
    · exact h.elim
  · exact h.elim
end
end DL

set_option Elab.async false
set_option linter.all false
set_option maxRecDepth 100000
set_option maxHeartbeats 4000000
set_option autoImplicit false
namespace DL
open PySem PySem.Spec PyProof.Rows L2
section
variable {X : Cx}
/-! ### what changes lists -/
theorem UpQ.wr {K : PySem.W.Frag} {H : Hp} {N : Ns} {G : Gp} {R : DK} {Q : VK} (q : UpQ K H N G R Q) (rg : RelG K H N G) {a : Addr} {ds es : List D} {vs us : List V} {d : D} {v : V} (e : G a = some (.lst ds)) (hv : H a = some (.lst vs)) (rd : RDs K H N es us) (rv : RD K H N d v) (h : R d (gup G a (.lst es))) : Q v (upd H a (.lst us)) := by
  have kw := Kp.write (u := .lst us) (rg a _ e).1 hv rfl rfl
  exact q _ _ N _ _ h (Stp.write (u := .lst us) rg e hv rfl rfl ⟨_, upd_same, rd.le kw⟩) (rv.le kw)
def dPop : D → List D → Gp → DK → Prop := fun x xs G R => match x, xs with
  | .ref a, [] => atL (G a) fun ds => isN ds.getLast? fun d => R d (gup G a (.lst ds.dropLast))
  | _, _ => False
theorem last_get {α : Type} {xs : List α} {x : α} (h : xs.getLast? = some x) : xs[xs.length - 1]? = some x := by rw [← List.getLast?_eq_getElem?]; exact h
theorem md_pop : MtD X "list.pop" dPop := md_of (rv := rPop) (fun pins s σ H x xs v us Q I rx rxs q => mt_pop pins s σ H x xs v us Q I rx rxs q) fun c cs G N R x xs H Q r0 r1 rg h q => by
  unfold dPop at h
  split at h
  · rename_i a
    obtain rfl := r0.of_ref
    rw [r1.of_nil]
    unfold atL at h
    split at h
    · rename_i ds e
      unfold isN at h
      split at h
      · rename_i d ed
        obtain ⟨_, vs, hv, rd⟩ := rg a _ e
        obtain ⟨v, hvg, rv⟩ := rd.get (last_get ed)
        refine ⟨a, vs, v, rfl, rfl, hv, by rw [← rd.length]; exact hvg, q.wr rg e hv rd.dropLast rv h⟩
      · exact h.elim
    · exact h.elim
  · exact h.elim
/-! ### a new tuple of texts -/
def dTupleN : DRn := fun cs G R => match cs with | [x] => (match (lstOf G x).bind strsOf with | some zs => R (.nt zs) G | none => False) | _ => False
theorem cd_tupleN : CallD X (.type "tuple") dTupleN := by
  intro pins s σ H xs us Q I r h
  obtain ⟨cs, G, N, R, r1, rg, h, q⟩ := h
  unfold dTupleN at h
  split at h
  · rename_i x
    split at h
    · rename_i zs e
      obtain ⟨v, r', rfl, rx, rn⟩ := r1.of_cons
      obtain rfl := rn.of_nil
      obtain ⟨u, rfl, ru⟩ := vals1 r
      cases ex : lstOf G x with
      | none => rw [ex] at e; cases e
      | some ds =>
        rw [ex] at e
        obtain ⟨p, vs, rfl, sq, rds⟩ := lstOf_ok rg rx ex
        cases ru
        have hds := strsOf_ok e
        subst hds
        obtain rfl := rds.of_strs
        obtain ⟨its, rv, pl, hz⟩ := I.list sq
        have hlen := rv.length
        refine call_tuple_list pl.isList (fun h' kp => ?_) (by simp only [List.size_toArray] <;> omega)
        have I1 : L2.Inv X pins σ H { s with heap := h' } := I.kept (t' := s.toks) kp
        have hn : H h'.objs.size = none := I1.hok.fresh (Nat.le_refl _)
        have I2 : L2.Inv X pins σ (upd H h'.objs.size (.frz { cls := .type "tuple", data := .seq its.toArray } (.tup (zs.map V.str)))) { s with heap := h'.push { cls := .type "tuple", data := .seq its.toArray } } :=
          I1.laid (t' := s.toks) (fun b o e => Heap.get?_push_of_some _ e) (Nat.le_refl _) ⟨Heap.get?_push_size _ rfl, show ObjOk X.prog X.w _ _ _ (.tup _) from ⟨hz, its, rv, IsTup.new _ _⟩⟩
        refine ⟨.ref h'.objs.size, _, I2, rfl, q _ _ _ _ _ h (Stp.new0 rg hn) ?_⟩
        simp only [RD]
        exact ⟨_, rfl, .inl ⟨_, upd_same, rfl, rfl⟩⟩
    · exact h.elim
  · exact h.elim
/-! ### a def in a local name, one of several -/
variable {x : Str} {i k : Nat} {e : Expr} {es : List Expr} {t : DA} {p pos : Pos}
end
end DL

set_option Elab.async false
set_option linter.all false
set_option maxRecDepth 100000
set_option maxHeartbeats 4000000
set_option autoImplicit false
namespace DL
open PySem PySem.Spec PyProof.Rows L2
section
variable {σ : Sd} {G : Gp} {R : DK} {ta : DE} {tr : DA}
theorem x_mX {T : String} {r : D → List D → Gp → DK → Prop} : dMX T r ta tr σ G R = ta σ G fun x G1 => mtyX G1 x = some T ∧ tr σ G1 fun ds G2 => r x ds G2 R := rfl
theorem ix_n {zs : List Str} {i : Int} : dIx (.nt zs) (.int i) G R = isN (atI (zs.map .str) i) fun d => R d G := rfl
theorem x_sortK {mk : Bool} {sp : DSp} : dSortK mk sp ta σ G R = ta σ G fun x G1 => dSortK1 mk sp x G1 R := rfl
theorem len_nt {zs : List Str} : dLen [.nt zs] G R = R (.int zs.length) G := by
  show R (.int (zs.map D.str).length) G = _
  rw [List.length_map]
theorem app_r {a : Addr} {y : D} : dAppend (.ref a) [y] G R = atL (G a) fun ds => ds.length < sizeLine ∧ R .non (gup G a (.lst (ds ++ [y]))) := rfl
theorem int_b {b : Bool} : dInt [.bl b] G R = R (.int (if b then 1 else 0)) G := rfl
theorem int_i {i : Int} : dInt [.int i] G R = R (.int i) G := rfl
theorem strI_i {i : Int} : dStrI [.int i] G R = (i.natAbs.log2 < 1920 ∧ R (.str (toString i)) G) := rfl
def dStrX : DRn := fun cs G R => match cs with | [.str z] => R (.str z) G | cs => dStrI cs G R
theorem strX_i {i : Int} : dStrX [.int i] G R = (i.natAbs.log2 < 1920 ∧ R (.str (toString i)) G) := rfl
theorem strX_s {z : Str} : dStrX [.str z] G R = R (.str z) G := rfl
theorem callr_or {X : Cx} {f : Value} {r1 r2 : List V → Hp → VK → Prop} (h1 : CallR X f r1) (h2 : CallR X f r2) : CallR X f fun xs H Q => r1 xs H Q ∨ r2 xs H Q := fun pins s σ H xs us Q I r h => h.elim (h1 pins s σ H xs us Q I r) (h2 pins s σ H xs us Q I r)
theorem cd_strX {X : Cx} : CallD X (.type "str") dStrX := callr_mono (callr_or (cd_strI (X := X)) (SkE.call_str_str (X := X))) fun xs H Q h => by
  obtain ⟨cs, G, N, R, r1, rg, h, q⟩ := h
  unfold dStrX at h
  split at h
  · obtain ⟨v, r, rfl, r2, r3⟩ := r1.of_cons
    rw [r3.of_nil, r2.of_str]
    exact .inr ⟨_, rfl, q.at rg h (RD.str _)⟩
  · exact .inl ⟨cs, G, N, R, r1, rg, h, q⟩
theorem log_small {k : Nat} (h : k ≤ 100000) : ((k : Int).natAbs).log2 < 1920 := by
  rw [Int.natAbs_natCast]
  by_cases e : k = 0
  · subst e; decide
  · have h1 : k < 2 ^ 1920 := Nat.lt_of_le_of_lt h (by decide +kernel)
    exact (Nat.log2_lt e).mpr h1
end
theorem ofString_inj {a b : String} : (Str.ofString a = Str.ofString b) = (a = b) := by
  refine propext ⟨fun h => ?_, fun h => by rw [h]⟩
  rw [Str.ofString_eq_toList, Str.ofString_eq_toList] at h
  have h1 : a.toList.map Char.toNat = b.toList.map Char.toNat := congrArg (fun s : Str => s.cps.toList) h
  have inj : ∀ l m : List Char, l.map Char.toNat = m.map Char.toNat → l = m := by
    intro l
    induction l with
    | nil => intro m e; cases m <;> simp_all
    | cons c l ih =>
      intro m e
      cases m with
      | nil => simp at e
      | cons d m =>
        simp only [List.map_cons, List.cons.injEq] at e
        have : c = d := Char.toNat_inj.mp e.1
        rw [this, ih m e.2]
  exact String.toList_inj.mp (inj _ _ h1)
theorem len_lit {a : String} : (Str.ofString a).length = a.length := by
  rw [Str.ofString_eq_toList]
  unfold Str.length
  simp [String.length_toList]
theorem len_num {k : Nat} (h : k ≤ 1000) : (Str.ofString (toString (k : Int))).length ≤ 5 := by
  rw [len_lit]
  exact int_text_length_le10 (a := (k : Int)) (k := 4) (by decide) (by rw [Int.natAbs_natCast]; omega)
theorem len_app (a b : Str) : (a ++ b).length = a.length + b.length := by
  rw [← cds_len, ← cds_len, ← cds_len, cds_app, List.length_append]
theorem lc_cons {g : DG} {c : DT} {ta : DE} {σ : Sd} {gd : Gp → Prop} {x : D} {xs acc : List D} {G : Gp} {Q : List D → Gp → Prop} (h : gd G ∧ g x σ G fun σ2 G2 => c σ2 G2 fun b G3 => br b (ta σ2 G3 fun y G4 => dLcGo g c ta gd σ xs (acc ++ [y]) G4 Q) (dLcGo g c ta gd σ xs acc G3 Q)) : dLcGo g c ta gd σ (x :: xs) acc G Q := h
theorem for_cons {g : DG} {t : DS} {gd : Gp → Prop} {E : DEnds} {x : D} {xs : List D} {σ : Sd} {G : Gp} (h : gd G ∧ g x σ G fun σ2 G2 => t { E with nx := Kont (dForGo g t gd E xs), ct := Kont (dForGo g t gd E xs), bk := E.nx } σ2 G2) : dForGo g t gd E (x :: xs) σ G := h
theorem join_l {sep : Str} {G : Gp} {R : DK} {ds : List D} {zs : List Str} (e : strsOf ds = some zs) : dJoin (.str sep) [.lst ds] G R = ((zs.map fun z : Str => z.length).sum + zs.length * sep.length ≤ 16777216 ∧ R (.str (Txt.join sep zs)) G) := by
  show (match (seqOf G (.lst ds)).bind strsOf with | some ys => (ys.map fun z : Str => z.length).sum + ys.length * sep.length ≤ 16777216 ∧ R (.str (Txt.join sep ys)) G | none => False) = _
  have : (seqOf G (.lst ds)).bind strsOf = some zs := e
  rw [this]
theorem join_go {sep : Str} {G : Gp} {R : DK} {ds : List D} {zs : List Str} (e : strsOf ds = some zs) (hl : (zs.map fun z : Str => z.length).sum + zs.length * sep.length ≤ 16777216) (h : R (.str (Txt.join sep zs)) G) : dJoin (.str sep) [.lst ds] G R := by
  rw [join_l e]; exact ⟨hl, h⟩
theorem strsOf_strs (zs : List Str) : strsOf (zs.map D.str) = some zs := by
  induction zs with
  | nil => rfl
  | cons z zs ih => simp only [List.map_cons, strsOf, ih]
end DL

set_option Elab.async false
set_option linter.all false
set_option maxRecDepth 100000
set_option maxHeartbeats 4000000
set_option autoImplicit false
namespace DL
open PySem PySem.Spec PyProof.Rows L2
section
variable {X : Cx}
/-! ### isinstance(x, (a, b)) -/
def dIsiX : DRn := fun cs G R => match cs with
  | [x, .tup [.ty m, .ty n]] => m ∈ knownTy ∧ n ∈ knownTy ∧ (match tyD G x with | some t => R (.bl (isTy t m || isTy t n)) G | none => False)
  | cs => dIsi cs G R
theorem cd_isiX : CallD X (.builtin "isinstance") dIsiX := by
  intro pins s σ H xs us Q I r h
  obtain ⟨cs, G, N, R, rd, rg, h, q⟩ := h
  unfold dIsiX at h
  split at h
  · rename_i x m n
    obtain ⟨hm, hn, h⟩ := h
    obtain ⟨v, r', rfl, r1, r2⟩ := rd.of_cons
    obtain ⟨v', r'', rfl, r3, r4⟩ := r2.of_cons
    obtain rfl := r4.of_nil
    split at h
    · rename_i t et
      obtain ⟨ty, mt⟩ := tyD_ok rg r1 et
      obtain ⟨u1, u2, rfl, ru1, ru2⟩ := vals2 r
      obtain ⟨tp, vs, rfl, sq, rvs⟩ := r3.of_tup
      cases (show u2 = Value.ref tp from ru2)
      obtain ⟨a1, r5, rfl, e1, r6⟩ := rvs.of_cons
      obtain ⟨a2, r7, rfl, e2, r8⟩ := r6.of_cons
      obtain rfl := r8.of_nil
      obtain rfl := e1.of_ty
      obtain rfl := e2.of_ty
      obtain ⟨P, Z, p, hx⟩ := kit_of I ru1 ty
      obtain ⟨its, rv, ⟨o, h1, h2, k, h3⟩, _⟩ := I.tuple sq
      have e3 := ClsV.all (.cons (.ty m) (.cons (.ty n) .nil)) rv
      subst e3
      obtain ⟨oc, od, dt, sl⟩ := o
      simp only at h2 h3
      subst h2 h3
      have k1 := kit_ty (K := X.K) (kits t mt m hm)
      have k2 := kit_ty (K := X.K) (kits t mt n hn)
      refine PySem.W.kia_tup Z I.kIn p h1 (b := isTy t m || isTy t n) ?_ hx fun tk => ⟨.bl _, H, I.tok tk, rfl, q.at rg h (RD.bl _)⟩
      simp only [PySem.W.kitAny, k1, k2]
      cases isTy t m <;> cases isTy t n <;> rfl
    · exact h.elim
  · exact cd_isi pins s σ H xs us Q I r ⟨cs, G, N, R, rd, rg, h, q⟩
variable {G : Gp} {R : DK} {n m : String} {i : Int} {z : Str} {b : Bool} {ds : List D} {zs : List Str} {p : Addr}
theorem isi_i : dIsiX [.int i, .ty n] G R = (n ∈ knownTy ∧ R (.bl (isTy "int" n)) G) := rfl
theorem isi_s : dIsiX [.str z, .ty n] G R = (n ∈ knownTy ∧ R (.bl (isTy "str" n)) G) := rfl
theorem isi_b : dIsiX [.bl b, .ty n] G R = (n ∈ knownTy ∧ R (.bl (isTy "bool" n)) G) := rfl
theorem isi_n : dIsiX [.non, .ty n] G R = (n ∈ knownTy ∧ R (.bl (isTy "NoneType" n)) G) := rfl
theorem isi_t : dIsiX [.tup ds, .ty n] G R = (n ∈ knownTy ∧ R (.bl (isTy "tuple" n)) G) := rfl
theorem isi_nt : dIsiX [.nt zs, .ty n] G R = (n ∈ knownTy ∧ R (.bl (isTy "tuple" n)) G) := rfl
theorem isi_l : dIsiX [.lst ds, .ty n] G R = (n ∈ knownTy ∧ R (.bl (isTy "list" n)) G) := rfl
theorem isi2_i : dIsiX [.int i, .tup [.ty m, .ty n]] G R = (m ∈ knownTy ∧ n ∈ knownTy ∧ R (.bl (isTy "int" m || isTy "int" n)) G) := rfl
theorem isi2_s : dIsiX [.str z, .tup [.ty m, .ty n]] G R = (m ∈ knownTy ∧ n ∈ knownTy ∧ R (.bl (isTy "str" m || isTy "str" n)) G) := rfl
theorem isi2_b : dIsiX [.bl b, .tup [.ty m, .ty n]] G R = (m ∈ knownTy ∧ n ∈ knownTy ∧ R (.bl (isTy "bool" m || isTy "bool" n)) G) := rfl
theorem isi2_n : dIsiX [.non, .tup [.ty m, .ty n]] G R = (m ∈ knownTy ∧ n ∈ knownTy ∧ R (.bl (isTy "NoneType" m || isTy "NoneType" n)) G) := rfl
theorem isi2_t : dIsiX [.tup ds, .tup [.ty m, .ty n]] G R = (m ∈ knownTy ∧ n ∈ knownTy ∧ R (.bl (isTy "tuple" m || isTy "tuple" n)) G) := rfl
theorem isi2_nt : dIsiX [.nt zs, .tup [.ty m, .ty n]] G R = (m ∈ knownTy ∧ n ∈ knownTy ∧ R (.bl (isTy "tuple" m || isTy "tuple" n)) G) := rfl
theorem isi2_l : dIsiX [.lst ds, .tup [.ty m, .ty n]] G R = (m ∈ knownTy ∧ n ∈ knownTy ∧ R (.bl (isTy "list" m || isTy "list" n)) G) := rfl
theorem kt1 : ("int" ∈ knownTy) = True := by decide
theorem kt2 : ("bool" ∈ knownTy) = True := by decide
theorem kt3 : ("str" ∈ knownTy) = True := by decide
theorem kt4 : ("tuple" ∈ knownTy) = True := by decide
theorem kt5 : ("list" ∈ knownTy) = True := by decide
theorem kt6 : ("dict" ∈ knownTy) = True := by decide
end
/-! ### slices by numbers -/
theorem cut1 {α : Type} {a : α} {xs : List α} : cutL (a :: xs) (some 1) none = xs := by
  unfold cutL; simp [HT.sIx]
theorem cut2 {α : Type} {a b : α} {xs : List α} : cutL (a :: b :: xs) (some 2) none = xs := by
  unfold cutL; simp [HT.sIx]
/-! ### local lists -/
section
variable {G : Gp} {R : DK} {p : Addr} {d : D} {o : GO} {ds : List D}
theorem rt_drop (hp : G p = none) (h : R d G) : Rt R d (gup G p o) := ret_sub (Sub.new hp) h
theorem mty_up : mty (gup G p (.lst ds)) (.ref p) = some "list" := by unfold mty; simp only [gup_same]
theorem mty_at (e : G p = some (.lst ds)) : mty G (.ref p) = some "list" := by unfold mty; simp only [e]
theorem rt_lst (hp : G p = none) (h : R (.lst ds) G) : Rt R (.ref p) (gup G p (.lst ds)) := ret_lst gup_same (Sub.new hp) hp h
theorem join_gor {sep : Str} {zs : List Str} (e : G p = some (.lst ds)) (e2 : strsOf ds = some zs) (hl : (zs.map fun z : Str => z.length).sum + zs.length * sep.length ≤ 16777216) (h : R (.str (Txt.join sep zs)) G) : dJoin (.str sep) [.ref p] G R := by
  have : (seqOf G (.ref p)).bind strsOf = some zs := by
    have e3 : seqOf G (.ref p) = some ds := by unfold seqOf lstOf; simp only [e]
    rw [e3]; exact e2
  show (match (seqOf G (.ref p)).bind strsOf with | some ys => (ys.map fun z : Str => z.length).sum + ys.length * sep.length ≤ 16777216 ∧ R (.str (Txt.join sep ys)) G | none => False)
  rw [this]
  exact ⟨hl, h⟩
end
end DL

set_option Elab.async false
set_option linter.all false
set_option maxRecDepth 100000
set_option maxHeartbeats 4000000
set_option autoImplicit false
namespace DL
open PySem PySem.Spec PyProof.Rows L2
/-! ### the order of keys -/
/-! ### choosing the first least one, again and again, sorts -/
section
variable {α : Type} {le : α → α → Bool} (tr : ∀ a b c, le a b = true → le b c = true → le a c = true) (to : ∀ a b, (le a b || le b a) = true)
include tr to in
end
end DL

set_option Elab.async false
set_option linter.all false
set_option maxRecDepth 100000
set_option maxHeartbeats 4000000
set_option autoImplicit false
namespace DL
open PySem PySem.Spec PyProof.Rows L2
section
variable {G : Gp} {R : DK} {p q s : Addr} {d : D} {o o' u : GO} {ds es : List D} {mk : Bool}
theorem fresh_ne (h : gup G s o p = none) : s ≠ p := fun z => by subst z; rw [gup_same] at h; cases h
theorem fresh_none (h : gup G s o p = none) : G p = none := by have := fresh_ne h; rwa [gup_ne this.symm] at h
theorem newL_t : newL true ds G R = ∀ p, G p = none → R (.ref p) (gup G p (.lst ds)) := rfl
theorem lstOf_r (e : G p = some (.lst ds)) : lstOf G (.ref p) = some ds := by unfold lstOf; simp only [e]
theorem seqOf_r (e : G p = some (.lst ds)) : seqOf G (.ref p) = some ds := by unfold seqOf; exact lstOf_r e
theorem tuple_r (e : G p = some (.lst ds)) : dTuple [.ref p] G R = R (.tup ds) G := by
  show (match seqOf G (.ref p) with | some ds => R (.tup ds) G | none => False) = _
  rw [seqOf_r e]
theorem atL_at {k : List D → Prop} (e : G p = some (.lst ds)) : atL (G p) k = k ds := by rw [e]; rfl
theorem gPy_r (e : G p = some (.lst ds)) : gPy G (.ref p) = gPy G (.lst ds) := by
  show (match G p with | some (.lst ds) => (toPys ds).map PyData.list | _ => none) = _
  rw [e]
  rfl
theorem eqW_rl {f : Bool → Bool} (e : G p = some (.lst es)) : dEqW f (.ref p) (.lst ds) G R = dEqW f (.lst es) (.lst ds) G R := by
  show (match gPy G (.ref p), gPy G (.lst ds) with | some a, some b => SeqAt.shaped a = true ∧ SeqAt.shaped b = true ∧ R (.bl (f (PyData.eqv a b))) G | _, _ => False) = _
  rw [gPy_r e]
  rfl
theorem ne_empty (h : pyDs ds = true) (hd : depDs ds ≤ 60) : dNe (.lst ds) (.lst []) G R = R (.bl (decide (ds ≠ []))) G := by
  refine propext ((ne_pure (by simpa only [pyD] using h) rfl (by simp only [depD]; omega) (by simp [depD, depDs])).trans ?_)
  cases ds with
  | nil => simp [eqD, eqDs]
  | cons d ds => simp [eqD, eqDs]
theorem sub_keep (h : s ≠ p) (hp : G p = none) : Sub (gup G s o) (gup (gup G p u) s o) := by
  rw [gup_comm h.symm]
  exact Sub.new (by rw [gup_ne h.symm]; exact hp)
end
end DL

set_option Elab.async false
set_option linter.all false
set_option maxRecDepth 100000
set_option maxHeartbeats 4000000
set_option autoImplicit false
namespace DL
open PySem PySem.Spec PyProof.Rows L2
/-! ### data that can be keys, nested: their hashes -/
mutual
def hasK : PyData → Bool
  | .int _ => true | .str _ => true | .bool _ => true
  | .tuple xs => hasKs xs
  | _ => false
def hasKs : List PyData → Bool
  | [] => true
  | x :: xs => hasK x && hasKs xs
end
mutual
def hshK (w : World) : PyData → Int
  | .int i => hashInt i
  | .str x => hashStr w x
  | .bool b => hashInt (if b then 1 else 0)
  | .tuple xs => reduceHash (Builtin.Tuple.tupleHashOf (hshKs w xs))
  | _ => 0
def hshKs (w : World) : List PyData → List Int
  | [] => []
  | x :: xs => hshK w x :: hshKs w xs
end
mutual
def drwK : PyData → Nat
  | .tuple xs => drwKs xs + 1
  | _ => 1
def drwKs : List PyData → Nat
  | [] => 0
  | x :: xs => drwK x + drwKs xs
end
section
variable {prog : Program} {w : World}
variable {A : Around} {E : Value → Shared → Prop} {s : Shared}
/-- a hash by its type's own slot -/
theorem hash_slot {T id : String} {f : Builtin} {v : Value} {Q : Int → Shared → Prop} (hT : s.TypeIs v T) (room : [v].any Value.onHeap = false ∨ A.units < cLine) (sl : Slot T "__hash__" id) (en : entryFor table id = some f) (ok : argsOk id ⟨[v], []⟩) (ns : ∀ x t, v ≠ .str x t)
    (run : wpAny (model prog w) A.in1 (f ⟨[v], []⟩) (fun r s' => ∃ i t, r = .done (.ret (.int i t)) ∧ Q (reduceHash i) s') E s) : wpAny (model prog w) A (pyHash v) Q E s := by
  have e : pyHash v = pyHashByItsType v := by
    cases v with
    | str x t => exact absurd rfl (ns x t)
    | _ => rfl
  have nn : (some (Value.builtin id) == some Value.none) = false := by rw [beq_builtin_none]
  rw [e]
  unfold pyHashByItsType
  refine wpAny_bind (wpAny_cRoomFor_or room (wpAny_bind (wpAny_specialOf hT sl.lookup ?_)))
  simp only [nn, Bool.false_eq_true, if_false]
  refine wpAny_bind (wpAny_specialOf hT sl.lookup ?_)
  simp only [Option.isNone_some, Bool.false_eq_true, if_false]
  refine wpAny_bind (wpAny_callSpecialIfBoundUnlessNone?_slot hT sl (wpAny_call_entry sl hT en (wpAny_mono run (fun r s' h => ?_) fun _ _ x => x) ok))
  obtain ⟨i, t, rfl, q⟩ := h
  refine ⟨_, rfl, ?_⟩
  show wpAny _ _ (pyHashByItsType.reduced i) Q E s'
  unfold pyHashByItsType.reduced
  unfold reduceHash at q
  cases c : (decide (-(2 ^ 63 : Int) ≤ i) && decide (i < 2 ^ 63)) with
  | true =>
    rw [c] at q
    simp only [if_true] at q ⊢
    exact wpAny_pure q
  | false =>
    rw [c] at q
    simp only [Bool.false_eq_true, if_false] at q ⊢
    exact wpAny_bind (wpAny_rule (wpAny_pure q))
theorem hash_bool {b : Bool} {Q : Int → Shared → Prop} (q : Q (hashInt (if b then 1 else 0)) { s with toks := s.toks + 1 }) : wpAny (model prog w) A (pyHash (.bool b)) Q E s := by
  refine hash_slot (T := "bool") (f := Builtin.«int.__hash__») rfl (.inl rfl) F.slot_bool_hash entry_int_hash (args_int_hash _) (fun x t h => by cases h) ?_
  have e : reduceHash (rawHash (if b then 1 else 0)) = hashInt (if b then 1 else 0) := by cases b <;> decide +kernel
  have run : wpAny (model prog w) A.in1 (do ret (← mkInt (rawHash (if b then 1 else 0)))) (fun r s' => ∃ i t, r = .done (.ret (.int i t)) ∧ Q (reduceHash i) s') E s := by
    refine wpAny_mono (wpAny_ret_mkInt (Q := fun v s' => ∃ i t, v = .int i t ∧ Q (reduceHash i) s') ⟨_, _, rfl, by rw [e]; exact q⟩) (fun r s' h => ?_) fun _ _ x => x
    obtain ⟨v, rfl, i, t, rfl, h⟩ := h
    exact ⟨i, t, rfl, h⟩
  cases b with
  | true => exact run
  | false => exact run
mutual
theorem hash_data : ∀ (d : PyData) {A : Around} {E : Value → Shared → Prop} {s : Shared} {v : Value} {as : List Addr} {Q : Int → Shared → Prop}, Reads s.heap v d as → hasK d = true → A.units + d.depth < cLine → Q (hshK w d) { s with toks := s.toks + drwK d } → wpAny (model prog w) A (pyHash v) Q E s
  | .int i, A, E, s, v, as, Q, r, _, _, q => by cases r; exact wpAny_pyHash_int (by simpa only [hshK, drwK] using q)
  | .str x, A, E, s, v, as, Q, r, _, _, q => by cases r; exact wpAny_pyHash_str (by simpa only [hshK, drwK] using q)
  | .bool b, A, E, s, v, as, Q, r, _, _, q => by cases r; exact hash_bool (by simpa only [hshK, drwK] using q)
  | .tuple xs, A, E, s, v, as, Q, r, hk, hu, q => by
    cases r with
    | tuple h1 h2 h3 h4 =>
      rename_i a o vs n
      simp only [hasK] at hk
      simp only [PyData.depth] at hu
      refine hash_slot (T := "tuple") (f := Builtin.«tuple.__hash__») ⟨o, h1, h2⟩ (.inr (by omega)) F.slot_tuple_hash F.entry_tuple_hash (F.args_tuple_hash_1 _) (fun x t h => by cases h) ?_
      show wpAny _ _ (do
        let mut hs : Array Int := #[]
        for x in ← Builtin.Tuple.tupleItemsOf (.ref a) do hs := hs.push (← pyHash x)
        retInt (Builtin.Tuple.tupleHashOf hs.toList)) _ E s
      refine wpAny_bind (wpAny_tupleItemsOf h1 h3 (wpAny_bind ?_))
      rw [← Array.forIn_toList]
      refine hash_all xs #[] h4 hk (by show A.units + 1 + PyData.depthAll xs < cLine; omega) ?_
      simp only [hshK, drwK] at q
      refine wpAny_mono (wpAny_ret_mkInt (Q := fun v s' => ∃ i t, v = .int i t ∧ Q (reduceHash i) s') ⟨_, _, rfl, ?_⟩) (fun r s' h => ?_) fun _ _ x => x
      · simpa [Nat.add_assoc] using q
      · obtain ⟨v, rfl, i, t, rfl, h⟩ := h
        exact ⟨i, t, rfl, h⟩
  | .none, _, _, _, _, _, _, _, hk, _, _ => by simp [hasK] at hk
  | .list _, _, _, _, _, _, _, _, hk, _, _ => by simp [hasK] at hk
  | .dict _, _, _, _, _, _, _, _, hk, _, _ => by simp [hasK] at hk
theorem hash_all : ∀ (xs : List PyData) (acc : Array Int) {A : Around} {E : Value → Shared → Prop} {s : Shared} {vs : List Value} {as : List Addr} {Q : Array Int → Shared → Prop}, ReadsAll s.heap vs xs as → hasKs xs = true → A.units + PyData.depthAll xs < cLine →
    Q (acc ++ (hshKs w xs).toArray) { s with toks := s.toks + drwKs xs } → wpAny (model prog w) A (forIn vs acc fun x r => do let h ← pyHash x; pure (ForInStep.yield (r.push h))) Q E s
  | [], acc, A, E, s, vs, as, Q, r, _, _, q => by
    cases r
    rw [List.forIn_nil]
    exact wpAny_pure (by simpa [hshKs, drwKs] using q)
  | d :: xs, acc, A, E, s, vs, as, Q, r, hk, hu, q => by
    cases r with
    | cons r1 r2 =>
      simp only [hasKs, Bool.and_eq_true] at hk
      simp only [PyData.depthAll] at hu
      rw [List.forIn_cons]
      refine wpAny_bind (wpAny_bind (hash_data d r1 hk.1 (by omega) (wpAny_pure ?_)))
      refine hash_all xs _ r2 hk.2 (by omega) ?_
      simpa [hshKs, drwKs, Nat.add_assoc] using q
end
end
end DL

set_option Elab.async false
set_option linter.all false
set_option maxRecDepth 100000
set_option maxHeartbeats 4000000
set_option autoImplicit false
namespace DL
open PySem PySem.Spec PyProof.Rows L2
section
variable {prog : Program} {w : World}
/-! ### such data compare quietly -/
mutual
theorem quiet_data : ∀ (d : PyData) (n : Nat) {A : Around} {E : Value → Shared → Prop} {s : Shared} {v : Value} {as : List Addr} {Q : Bool → Shared → Prop}, Reads s.heap v d as → hasK d = true → d.depth ≤ n → Q true s → wpAny (model prog w) A (eqIsQuiet n v) Q E s
  | .int i, n, A, E, s, v, as, Q, r, _, _, q => by cases r; rw [eqIsQuiet_byValue n rfl]; exact wpAny_pure q
  | .str x, n, A, E, s, v, as, Q, r, _, _, q => by cases r; rw [eqIsQuiet_byValue n rfl]; exact wpAny_pure q
  | .bool b, n, A, E, s, v, as, Q, r, _, _, q => by cases r; rw [eqIsQuiet_byValue n rfl]; exact wpAny_pure q
  | .tuple xs, 0, A, E, s, v, as, Q, r, hk, hu, q => by simp [PyData.depth] at hu
  | .tuple xs, n + 1, A, E, s, v, as, Q, r, hk, hu, q => by
    cases r with
    | tuple h1 h2 h3 h4 =>
      rename_i a o vs m
      simp only [hasK] at hk
      simp only [PyData.depth] at hu
      have ty : s.TypeIs (.ref a) "tuple" := ⟨o, h1, h2⟩
      unfold eqIsQuiet
      refine wpAny_bind (wpAny_specialOf ty F.slot_tuple_eq.lookup ?_)
      show wpAny _ _ (do
        if !(← isInstance (.ref a) (.type "tuple")) then return false
        for y in (← seqItems? (.ref a)).getD #[] do
          if !(← eqIsQuiet n y) then return false
        return true) Q E s
      refine wpAny_bind (wpAny_isInstance ty isSubtype_tuple_tuple ?_)
      simp only [Bool.not_true, Bool.false_eq_true, if_false]
      refine wpAny_bind (wpAny_seqItems h1 h3 (wpAny_bind ?_))
      show wpAny _ _ (forIn vs _ _) _ _ s
      rw [← Array.forIn_toList]
      refine quiet_all xs n h4 hk (by omega) ?_
      exact wpAny_pure q
  | .none, _, _, _, _, _, _, _, _, hk, _, _ => by simp [hasK] at hk
  | .list _, _, _, _, _, _, _, _, _, hk, _, _ => by simp [hasK] at hk
  | .dict _, _, _, _, _, _, _, _, _, hk, _, _ => by simp [hasK] at hk
theorem quiet_all : ∀ (xs : List PyData) (n : Nat) {A : Around} {E : Value → Shared → Prop} {s : Shared} {vs : List Value} {as : List Addr} {Q : Option Bool × Unit → Shared → Prop}, ReadsAll s.heap vs xs as → hasKs xs = true → PyData.depthAll xs ≤ n → Q (none, ()) s →
    wpAny (model prog w) A (forIn vs ((none, ()) : Option Bool × Unit) fun y r => do
      if (!(← eqIsQuiet n y)) = true then pure (ForInStep.done (some false, ())) else pure (ForInStep.yield (none, ()))) Q E s
  | [], n, A, E, s, vs, as, Q, r, _, _, q => by
    cases r
    rw [List.forIn_nil]
    exact wpAny_pure q
  | d :: xs, n, A, E, s, vs, as, Q, r, hk, hu, q => by
    cases r with
    | cons r1 r2 =>
      simp only [hasKs, Bool.and_eq_true] at hk
      simp only [PyData.depthAll] at hu
      rw [List.forIn_cons]
      refine wpAny_bind (wpAny_bind (quiet_data d n r1 hk.1 (by omega) ?_))
      simp only [Bool.not_true, Bool.false_eq_true, if_false]
      exact wpAny_pure (quiet_all xs n r2 hk.2 (by omega) q)
end
end
end DL

set_option Elab.async false
set_option linter.all false
set_option maxRecDepth 100000
set_option maxHeartbeats 4000000
set_option autoImplicit false
namespace DL
open PySem PySem.Spec PyProof.Rows L2
/-! ### what is the same, among such data -/
mutual
theorem eqv_sym : ∀ a b : PyData, PyData.eqv a b = PyData.eqv b a
  | .none, .none => rfl
  | .none, .bool b => rfl
  | .none, .int b => rfl
  | .none, .str b => rfl
  | .none, .list b => rfl
  | .none, .tuple b => rfl
  | .none, .dict b => rfl
  | .bool a, .none => rfl
  | .bool a, .bool b => by simp only [PyData.eqv]; exact Bool.beq_comm
  | .bool a, .int b => by simp only [PyData.eqv]; exact Bool.beq_comm
  | .bool a, .str b => rfl
  | .bool a, .list b => rfl
  | .bool a, .tuple b => rfl
  | .bool a, .dict b => rfl
  | .int a, .none => rfl
  | .int a, .bool b => by simp only [PyData.eqv]; exact Bool.beq_comm
  | .int a, .int b => by simp only [PyData.eqv]; exact Bool.beq_comm
  | .int a, .str b => rfl
  | .int a, .list b => rfl
  | .int a, .tuple b => rfl
  | .int a, .dict b => rfl
  | .str a, .none => rfl
  | .str a, .bool b => rfl
  | .str a, .int b => rfl
  | .str a, .str b => by simp only [PyData.eqv]; exact Bool.beq_comm
  | .str a, .list b => rfl
  | .str a, .tuple b => rfl
  | .str a, .dict b => rfl
  | .list a, .none => rfl
  | .list a, .bool b => rfl
  | .list a, .int b => rfl
  | .list a, .str b => rfl
  | .list a, .list b => by simp only [PyData.eqv]; exact eqvAll_sym a b
  | .list a, .tuple b => rfl
  | .list a, .dict b => rfl
  | .tuple a, .none => rfl
  | .tuple a, .bool b => rfl
  | .tuple a, .int b => rfl
  | .tuple a, .str b => rfl
  | .tuple a, .list b => rfl
  | .tuple a, .tuple b => by simp only [PyData.eqv]; exact eqvAll_sym a b
  | .tuple a, .dict b => rfl
  | .dict a, .none => rfl
  | .dict a, .bool b => rfl
  | .dict a, .int b => rfl
  | .dict a, .str b => rfl
  | .dict a, .list b => rfl
  | .dict a, .tuple b => rfl
  | .dict a, .dict b => rfl
theorem eqvAll_sym : ∀ xs ys : List PyData, PyData.eqvAll xs ys = PyData.eqvAll ys xs
  | [], [] => rfl
  | [], _ :: _ => rfl
  | _ :: _, [] => rfl
  | x :: xs, y :: ys => by simp only [PyData.eqvAll, eqv_sym x y, eqvAll_sym xs ys]
end
mutual
theorem eqv_trs : ∀ a b c : PyData, hasK a = true → hasK b = true → hasK c = true → PyData.eqv a b = true → PyData.eqv b c = true → PyData.eqv a c = true
  | .tuple xs, .tuple ys, .tuple zs, h1, h2, h3, e1, e2 => by
    simp only [PyData.eqv, hasK] at *
    exact eqvAll_trs xs ys zs h1 h2 h3 e1 e2
  | .str x, .str y, .str z, _, _, _, e1, e2 => by
    simp only [PyData.eqv, beq_iff_eq] at *
    rw [e1, e2]
  | .int i, b, c, _, hb, hc, e1, e2 => by
    cases b <;> cases c <;> simp only [PyData.eqv, hasK, Bool.false_eq_true, beq_iff_eq] at * <;> simp_all
  | .bool i, b, c, _, hb, hc, e1, e2 => by
    cases b <;> cases c <;> simp only [PyData.eqv, hasK, Bool.false_eq_true, beq_iff_eq] at * <;> simp_all
    rename_i b c
    cases i <;> cases c <;> simp_all
  | .tuple _, .int _, _, _, _, _, e1, _ => by simp [PyData.eqv] at e1
  | .tuple _, .str _, _, _, _, _, e1, _ => by simp [PyData.eqv] at e1
  | .tuple _, .bool _, _, _, _, _, e1, _ => by simp [PyData.eqv] at e1
  | .tuple _, .tuple _, .int _, _, _, _, _, e2 => by simp [PyData.eqv] at e2
  | .tuple _, .tuple _, .str _, _, _, _, _, e2 => by simp [PyData.eqv] at e2
  | .tuple _, .tuple _, .bool _, _, _, _, _, e2 => by simp [PyData.eqv] at e2
  | .str _, .int _, _, _, _, _, e1, _ => by simp [PyData.eqv] at e1
  | .str _, .tuple _, _, _, _, _, e1, _ => by simp [PyData.eqv] at e1
  | .str _, .bool _, _, _, _, _, e1, _ => by simp [PyData.eqv] at e1
  | .str _, .str _, .int _, _, _, _, _, e2 => by simp [PyData.eqv] at e2
  | .str _, .str _, .tuple _, _, _, _, _, e2 => by simp [PyData.eqv] at e2
  | .str _, .str _, .bool _, _, _, _, _, e2 => by simp [PyData.eqv] at e2
  | .none, _, _, h, _, _, _, _ => by simp [hasK] at h
  | .list _, _, _, h, _, _, _, _ => by simp [hasK] at h
  | .dict _, _, _, h, _, _, _, _ => by simp [hasK] at h
  | .tuple _, .none, _, _, h, _, _, _ => by simp [hasK] at h
  | .tuple _, .list _, _, _, h, _, _, _ => by simp [hasK] at h
  | .tuple _, .dict _, _, _, h, _, _, _ => by simp [hasK] at h
  | .str _, .none, _, _, h, _, _, _ => by simp [hasK] at h
  | .str _, .list _, _, _, h, _, _, _ => by simp [hasK] at h
  | .str _, .dict _, _, _, h, _, _, _ => by simp [hasK] at h
  | .tuple _, .tuple _, .none, _, _, h, _, _ => by simp [hasK] at h
  | .tuple _, .tuple _, .list _, _, _, h, _, _ => by simp [hasK] at h
  | .tuple _, .tuple _, .dict _, _, _, h, _, _ => by simp [hasK] at h
  | .str _, .str _, .none, _, _, h, _, _ => by simp [hasK] at h
  | .str _, .str _, .list _, _, _, h, _, _ => by simp [hasK] at h
  | .str _, .str _, .dict _, _, _, h, _, _ => by simp [hasK] at h
theorem eqvAll_trs : ∀ xs ys zs : List PyData, hasKs xs = true → hasKs ys = true → hasKs zs = true → PyData.eqvAll xs ys = true → PyData.eqvAll ys zs = true → PyData.eqvAll xs zs = true
  | [], [], [], _, _, _, _, _ => rfl
  | x :: xs, y :: ys, z :: zs, h1, h2, h3, e1, e2 => by
    simp only [PyData.eqvAll, hasKs, Bool.and_eq_true] at *
    exact ⟨eqv_trs x y z h1.1 h2.1 h3.1 e1.1 e2.1, eqvAll_trs xs ys zs h1.2 h2.2 h3.2 e1.2 e2.2⟩
  | [], _ :: _, _, _, _, _, e1, _ => by simp [PyData.eqvAll] at e1
  | _ :: _, [], _, _, _, _, e1, _ => by simp [PyData.eqvAll] at e1
  | [], [], _ :: _, _, _, _, _, e2 => by simp [PyData.eqvAll] at e2
  | _ :: _, _ :: _, [], _, _, _, _, e2 => by simp [PyData.eqvAll] at e2
end
mutual
theorem eqv_hsh (w : World) : ∀ a b : PyData, hasK a = true → hasK b = true → PyData.eqv a b = true → hshK w a = hshK w b
  | .tuple xs, .tuple ys, h1, h2, e => by
    simp only [PyData.eqv, hasK] at *
    simp only [hshK, eqvAll_hsh w xs ys h1 h2 e]
  | .tuple xs, .int _, _, _, e => by simp [PyData.eqv] at e
  | .tuple xs, .str _, _, _, e => by simp [PyData.eqv] at e
  | .tuple xs, .bool _, _, _, e => by simp [PyData.eqv] at e
  | .tuple xs, .none, _, h, _ => by simp [hasK] at h
  | .tuple xs, .list _, _, h, _ => by simp [hasK] at h
  | .tuple xs, .dict _, _, h, _ => by simp [hasK] at h
  | .int i, b, _, hb, e => by cases b <;> simp only [PyData.eqv, hasK, hshK, Bool.false_eq_true, beq_iff_eq] at * <;> rw [e]
  | .bool i, b, _, hb, e => by cases b <;> simp only [PyData.eqv, hasK, hshK, Bool.false_eq_true, beq_iff_eq] at * <;> rw [e]
  | .str i, b, _, hb, e => by cases b <;> simp only [PyData.eqv, hasK, hshK, Bool.false_eq_true, beq_iff_eq] at * <;> rw [e]
  | .none, _, h, _, _ => by simp [hasK] at h
  | .list _, _, h, _, _ => by simp [hasK] at h
  | .dict _, _, h, _, _ => by simp [hasK] at h
theorem eqvAll_hsh (w : World) : ∀ xs ys : List PyData, hasKs xs = true → hasKs ys = true → PyData.eqvAll xs ys = true → hshKs w xs = hshKs w ys
  | [], [], _, _, _ => rfl
  | x :: xs, y :: ys, h1, h2, e => by
    simp only [PyData.eqvAll, hasKs, Bool.and_eq_true] at *
    simp only [hshKs, eqv_hsh w x y h1.1 h2.1 e.1, eqvAll_hsh w xs ys h1.2 h2.2 e.2]
  | [], _ :: _, _, _, e => by simp [PyData.eqvAll] at e
  | _ :: _, [], _, _, e => by simp [PyData.eqvAll] at e
end
mutual
theorem hasK_plain : ∀ a : PyData, hasK a = true → a.plain = true
  | .tuple xs, h => by simp only [hasK] at h; simp only [PyData.plain]; exact hasKs_plain xs h
  | .int _, _ => rfl
  | .str _, _ => rfl
  | .bool _, _ => rfl
  | .none, h => by simp [hasK] at h
  | .list _, h => by simp [hasK] at h
  | .dict _, h => by simp [hasK] at h
theorem hasKs_plain : ∀ xs : List PyData, hasKs xs = true → PyData.plainAll xs = true
  | [], _ => rfl
  | x :: xs, h => by simp only [hasKs, Bool.and_eq_true] at h; simp only [PyData.plainAll, hasK_plain x h.1, hasKs_plain xs h.2, Bool.and_self]
end
end DL

set_option Elab.async false
set_option linter.all false
set_option maxRecDepth 100000
set_option maxHeartbeats 4000000
set_option autoImplicit false
namespace DL
open PySem PySem.Spec PyProof.Rows L2
/-! ### dicts whose keys are such data -/
structure Ents (w : World) (h : Heap) (ks : List PyData) (es : Array DictEntry) : Prop where
  len : es.size = ks.length
  at_ : ∀ (i : Nat) (e : DictEntry) (k : PyData), es[i]? = some e → ks[i]? = some k → e.hash = hshK w k ∧ ∃ as, Reads h e.key k as
  has : ∀ k ∈ ks, hasK k = true ∧ k.depth ≤ 8
  uniq : ∀ (i j : Nat) (a b : PyData), i < j → ks[i]? = some a → ks[j]? = some b → PyData.eqv a b = false
section
variable {prog : Program} {w : World} {A : Around} {E : Value → Shared → Prop} {s : Shared} {d : Addr} {o : Obj} {es : Array DictEntry} {ep : Nat} {ks : List PyData} {key : Value} {k : PyData} {as : List Addr}
theorem Ents.get (X : Ents w s.heap ks es) {i : Nat} (hi : i < es.size) : ∃ e a, es[i]? = some e ∧ ks[i]? = some a ∧ e.hash = hshK w a ∧ (∃ as, Reads s.heap e.key a as) ∧ hasK a = true ∧ a.depth ≤ 8 := by
  have h2 : i < ks.length := by rw [← X.len]; exact hi
  have h3 := X.at_ i es[i] ks[i] (Array.getElem?_eq_getElem hi) (List.getElem?_eq_getElem h2)
  have h4 := X.has ks[i] (List.getElem_mem h2)
  exact ⟨_, _, Array.getElem?_eq_getElem hi, List.getElem?_eq_getElem h2, h3.1, h3.2, h4⟩
theorem Ents.same (X : Ents w s.heap ks es) {i j : Nat} {a b : PyData} (hi : ks[i]? = some a) (hj : ks[j]? = some b) (hk : hasK k = true) (h1 : PyData.eqv a k = true) (h2 : PyData.eqv b k = true) : i = j := by
  have ka := (X.has a (List.mem_of_getElem? hi)).1
  have kb := (X.has b (List.mem_of_getElem? hj)).1
  have e : PyData.eqv a b = true := eqv_trs a k b ka hk kb h1 (by rw [eqv_sym]; exact h2)
  rcases Nat.lt_trichotomy i j with h | h | h
  · rw [X.uniq i j a b h hi hj] at e; cases e
  · exact h
  · rw [eqv_sym, X.uniq j i b a h hj hi] at e; cases e
theorem find_at {i : Nat} {a : PyData} (X : Ents w s.heap ks es) (hk : hasK k = true) (hi : ks[i]? = some a) (h : PyData.eqv a k = true) : ks.findIdx? (fun z => PyData.eqv z k) = some i := by
  rw [List.findIdx?_eq_some_iff_getElem]
  have hl := (List.getElem?_eq_some_iff.mp hi).1
  have he := (List.getElem?_eq_some_iff.mp hi).2
  refine ⟨hl, by rw [he]; exact h, fun j hj => ?_⟩
  intro c
  have hj2 : j < ks.length := by omega
  have := X.same (List.getElem?_eq_getElem hj2) hi hk c h
  omega
/-- going through places of which one at most is right -/
theorem scan_go {M : Model} {yes : Nat → Bool} {few : Bool} {f : Nat → Option (Option Nat) × Option Nat → Sem (ForInStep (Option (Option Nat) × Option Nat))} :
    ∀ (ps : List Nat), (∀ i ∈ ps, yes i = true → ∀ (R : ForInStep (Option (Option Nat) × Option Nat) → Shared → Prop), R (if few then .done (some (some i), none) else .yield (none, some i)) s → wpAny M A (f i (none, none)) R E s) →
      (∀ i ∈ ps, yes i = false → ∀ st (R : ForInStep (Option (Option Nat) × Option Nat) → Shared → Prop), R (.yield (none, st)) s → wpAny M A (f i (none, st)) R E s) → (ps.Pairwise fun i j => yes i = true → yes j = false) →
      ∀ (st : Option Nat), (st ≠ none → ∀ i ∈ ps, yes i = false) → ∀ (Q : Option (Option Nat) × Option Nat → Shared → Prop), (∀ r, (match r.1 with | some x => x | none => r.2) = (match st with | some x => some x | none => ps.find? yes) → Q r s) → wpAny M A (forIn ps ((none, st) : Option (Option Nat) × Option Nat) f) Q E s
  | [], _, _, _, st, _, Q, q => by
    rw [List.forIn_nil]
    refine wpAny_pure (q _ ?_)
    cases st <;> rfl
  | i :: ps, hit, miss, pw, st, hst, Q, q => by
    rw [List.forIn_cons]
    have pw2 := (List.pairwise_cons.mp pw)
    cases hy : yes i with
    | true =>
      have es : st = none := by
        cases st with
        | none => rfl
        | some x => have := hst (by simp) i (by simp); rw [hy] at this; cases this
      subst es
      refine wpAny_bind (hit i (by simp) hy _ ?_)
      cases few with
      | true => exact wpAny_pure (q _ (by simp [hy]))
      | false =>
        refine scan_go ps (fun j hj => hit j (List.mem_cons_of_mem _ hj)) (fun j hj => miss j (List.mem_cons_of_mem _ hj)) pw2.2 (some i) (fun _ j hj => pw2.1 j hj hy) Q fun r hr => q r ?_
        rw [hr]; simp [hy]
    | false =>
      refine wpAny_bind (miss i (by simp) hy st _ ?_)
      refine scan_go ps (fun j hj => hit j (List.mem_cons_of_mem _ hj)) (fun j hj => miss j (List.mem_cons_of_mem _ hj)) pw2.2 st (fun h j hj => hst h j (List.mem_cons_of_mem _ hj)) Q fun r hr => q r ?_
      rw [hr]; cases st <;> simp [hy]
theorem walk_go {M : Model} {yes : Nat → Bool} {f : Nat → Option (Option Nat) × Unit → Sem (ForInStep (Option (Option Nat) × Unit))} :
    ∀ (ps : List Nat), (∀ i ∈ ps, yes i = true → ∀ (R : ForInStep (Option (Option Nat) × Unit) → Shared → Prop), R (.done (some (some i), ())) s → wpAny M A (f i (none, ())) R E s) →
      (∀ i ∈ ps, yes i = false → ∀ (R : ForInStep (Option (Option Nat) × Unit) → Shared → Prop), R (.yield (none, ())) s → wpAny M A (f i (none, ())) R E s) →
      ∀ (Q : Option (Option Nat) × Unit → Shared → Prop), (∀ r, (match r.1 with | some x => x | none => none) = ps.find? yes → Q r s) → wpAny M A (forIn ps ((none, ()) : Option (Option Nat) × Unit) f) Q E s
  | [], _, _, Q, q => by
    rw [List.forIn_nil]
    exact wpAny_pure (q _ rfl)
  | i :: ps, hit, miss, Q, q => by
    rw [List.forIn_cons]
    cases hy : yes i with
    | true => exact wpAny_bind (hit i (by simp) hy _ (wpAny_pure (q _ (by simp [hy]))))
    | false =>
      refine wpAny_bind (miss i (by simp) hy _ (walk_go ps (fun j hj => hit j (List.mem_cons_of_mem _ hj)) (fun j hj => miss j (List.mem_cons_of_mem _ hj)) Q fun r hr => q r ?_))
      rw [hr]; simp [hy]
/-- the places with a hash -/
theorem places_mem (X : Ents w s.heap ks es) {i : Nat} {z : Int} : i ∈ placesWithHash es.size (fun i => es[i]?.map (·.hash)) z ↔ ∃ e a, es[i]? = some e ∧ ks[i]? = some a ∧ e.hash = z := by
  unfold placesWithHash
  rw [List.mem_filter, List.mem_range]
  constructor
  · rintro ⟨h1, h2⟩
    obtain ⟨e, a, h3, h4, _⟩ := X.get h1
    refine ⟨e, a, h3, h4, ?_⟩
    simp only [h3, Option.map_some] at h2
    simpa using h2
  · rintro ⟨e, a, h3, h4, h5⟩
    refine ⟨(Array.getElem?_eq_some_iff.mp h3).1, ?_⟩
    simp only [h3, Option.map_some]
    simp [h5]
theorem places_find (X : Ents w s.heap ks es) (hk : hasK k = true) : (placesWithHash es.size (fun i => es[i]?.map (·.hash)) (hshK w k)).find? (fun i => match ks[i]? with | some a => PyData.eqv a k | none => false) = ks.findIdx? fun z => PyData.eqv z k := by
  cases h : (placesWithHash es.size (fun i => es[i]?.map (·.hash)) (hshK w k)).find? (fun i => match ks[i]? with | some a => PyData.eqv a k | none => false) with
  | some i =>
    have h1 := List.find?_some h
    split at h1
    · rename_i a ha
      exact (find_at X hk ha h1).symm
    · cases h1
  | none =>
    symm
    rw [List.findIdx?_eq_none_iff]
    intro a ha
    cases c : PyData.eqv a k with
    | false => rfl
    | true =>
      obtain ⟨i, hi, rfl⟩ := List.mem_iff_getElem.mp ha
      have hi2 : i < es.size := by rw [X.len]; exact hi
      obtain ⟨e, b, h3, h4, h5, _, h6, _⟩ := X.get hi2
      have eb : b = ks[i] := by rw [List.getElem?_eq_getElem hi] at h4; exact (Option.some.inj h4).symm
      subst eb
      have := List.find?_eq_none.mp h i ((places_mem X).mpr ⟨e, _, h3, h4, by rw [h5, eqv_hsh w _ k h6 hk c]⟩)
      rw [h4] at this
      exact absurd c this
theorem calm_all {M : Model} {σ : Type} {x0 : σ} {f : Value → σ → Sem (ForInStep σ)} {Q : σ → Shared → Prop} : ∀ (vs : List Value), (∀ v ∈ vs, ∀ (R : ForInStep σ → Shared → Prop), R (.yield x0) s → wpAny M A (f v x0) R E s) → Q x0 s → wpAny M A (forIn vs x0 f) Q E s
  | [], _, q => by rw [List.forIn_nil]; exact wpAny_pure q
  | v :: vs, h, q => by
    rw [List.forIn_cons]
    exact wpAny_bind (h v (by simp) _ (calm_all vs (fun u hu => h u (List.mem_cons_of_mem _ hu)) q))
theorem may_no {stored : List Value} {R : Bool → Shared → Prop} (rk : Reads s.heap key k as) (hk : hasK k = true) (hkd : k.depth ≤ 8) (hs : ∀ v ∈ stored, ∃ a as, Reads s.heap v a as ∧ hasK a = true ∧ a.depth ≤ 8) (q : R false s) :
    wpAny (model prog w) A (tableMayTell key stored) R E s := by
    unfold tableMayTell
    split
    · exact wpAny_pure q
    · refine wpAny_bind (quiet_data k 8 rk hk hkd ?_)
      simp only [Bool.not_true, Bool.false_eq_true, if_false]
      refine wpAny_bind (calm_all stored (fun v hv R' h => ?_) ?_)
      · obtain ⟨a, as', r, h1, h2⟩ := hs v hv
        refine wpAny_bind (quiet_data a 8 r h1 h2 ?_)
        simp only [Bool.not_true, Bool.false_eq_true, if_false]
        exact wpAny_pure h
      · exact wpAny_pure q
theorem find_pair {α β : Type} {p : α → Bool} {p' : β → Bool} {l : List α} {m : List β} (hl : l.length = m.length) (h : ∀ (i : Nat) (a : α) (b : β), l[i]? = some a → m[i]? = some b → p a = p' b) : l.findIdx? p = m.findIdx? p' := by
  rw [findIdx?_map', findIdx?_map' p' m]
  congr 1
  refine List.ext_getElem? fun i => ?_
  rw [List.getElem?_map, List.getElem?_map]
  cases c : l[i]? with
  | none =>
    have : m[i]? = none := by rw [List.getElem?_eq_none_iff] at c ⊢; omega
    rw [this]; rfl
  | some a =>
    have hi := (List.getElem?_eq_some_iff.mp c).1
    have c2 : m[i]? = some m[i] := List.getElem?_eq_getElem (by omega)
    rw [c2]
    simp only [Option.map_some, h i a _ c c2]
theorem find_data {Q : Option Nat → Shared → Prop} (ho : s.heap.get? d = some o) (hd : o.data = .dict es ep) (X : Ents w s.heap ks es) (rk : Reads s.heap key k as) (hk : hasK k = true) (hkd : k.depth ≤ 8) (hu : A.units + 10 < cLine)
    (q : Q (ks.findIdx? fun z => PyData.eqv z k) s) : wpAny (model prog w) A (dictFind d key (hshK w k)) Q E s := by
  have eq : ∀ (i : Nat) (e : DictEntry) (a : PyData), es[i]? = some e → ks[i]? = some a → SeqAt.EqAt A s e.key key (PyData.eqv a k) := fun i e a h1 h2 => by
    obtain ⟨_, _, r⟩ := X.at_ i e a h1 h2
    obtain ⟨h3, h4⟩ := X.has a (List.mem_of_getElem? h2)
    exact SeqAt.eqAt_plain a k A s e.key key _ _ r rk (hasK_plain a h3) (hasK_plain k hk) (by have := Nat.min_le_left a.depth k.depth; omega)
  have hst : ∀ v ∈ (placesWithHash es.size (fun i => es[i]?.map (·.hash)) (hshK w k)).filterMap (fun i => es[i]?.map (·.key)), ∃ a as, Reads s.heap v a as ∧ hasK a = true ∧ a.depth ≤ 8 := by
    intro v hv
    obtain ⟨i, hi, hv⟩ := List.mem_filterMap.mp hv
    obtain ⟨e, a, h1, h2, _⟩ := (places_mem X).mp hi
    rw [h1] at hv
    cases hv
    obtain ⟨_, as', r⟩ := X.at_ i e a h1 h2
    exact ⟨a, as', r, X.has a (List.mem_of_getElem? h2)⟩
  have pw : (placesWithHash es.size (fun i => es[i]?.map (·.hash)) (hshK w k)).Pairwise fun i j => (match ks[i]? with | some a => PyData.eqv a k | none => false) = true → (match ks[j]? with | some a => PyData.eqv a k | none => false) = false := by
    have nd : (placesWithHash es.size (fun i => es[i]?.map (·.hash)) (hshK w k)).Nodup := List.Nodup.sublist List.filter_sublist List.nodup_range
    refine List.Pairwise.imp (fun {i j} hne h => ?_) nd
    cases c : (match ks[j]? with | some a => PyData.eqv a k | none => false) with
    | false => rfl
    | true =>
      split at h
      · rename_i a ha
        split at c
        · rename_i b hb
          exact absurd (X.same ha hb hk h c) hne
        · cases c
      · cases h
  have pf := places_find (k := k) X hk
  have pm : ∀ i, i ∈ placesWithHash es.size (fun i => es[i]?.map (·.hash)) (hshK w k) → ∃ e a, es[i]? = some e ∧ ks[i]? = some a ∧ (e.hash == hshK w k) = true := fun i hi => by
    obtain ⟨e, a, h1, h2, h3⟩ := (places_mem X).mp hi
    exact ⟨e, a, h1, h2, by rw [h3]; simp⟩
  have any0 : (es.any fun e => e.key == key && e.hash != hshK w k) = false := by
    rw [Bool.eq_false_iff]
    intro c
    obtain ⟨i, hi, c⟩ := Array.any_eq_true.mp c
    obtain ⟨e, a, h1, h2, h3, ⟨as', r⟩, h5, h6⟩ := X.get hi
    rw [Array.getElem?_eq_getElem hi] at h1
    cases h1
    simp only [Bool.and_eq_true, beq_iff_eq, bne_iff_ne, ne_eq] at c
    obtain ⟨c1, c2⟩ := c
    rw [c1] at r
    have := SeqAt.readOf_plain (hasK_plain a h5) r
    have h7 := SeqAt.readOf_plain (hasK_plain k hk) rk
    rw [← this, h7] at h3
    exact c2 h3
  have rk' := rk
  unfold dictFind
  refine wpAny_holding (wpAny_bind (wpAny_dictEntries ho hd ?_))
  generalize hpl : placesWithHash es.size (fun i => es[i]?.map (·.hash)) (hshK w k) = places at *
  cases rk with
  | tuple h1 h2 h3 h4 =>
    dsimp only
    simp only [hpl, List.all_cons, carriedByValue, Bool.false_and, Bool.false_eq_true, if_false]
    rw [any0]
    simp only [Bool.false_eq_true, if_false]
    split
    all_goals first | refine wpAny_bind (wpAny_pure ?_) | refine wpAny_bind (may_no rk' hk hkd hst ?_)
    all_goals
      simp only [Bool.false_and, Bool.and_false, Bool.false_eq_true, if_false]
      refine wpAny_bind (scan_go (few := decide ((places.filterMap fun i => es[i]?.map (·.key)).length < 2)) places (fun i hi hy R hR => ?_) (fun i hi hy st R hR => ?_) pw none (fun h => absurd rfl h) _ fun r hr => ?_)
      · obtain ⟨e, a, g1, g2, g3⟩ := pm i hi
        simp only [g2] at hy
        simp only [g1, g3, if_true]
        refine wpAny_bind (wpAny_dictEpoch ho hd (wpAny_bind (eq i e a g1 g2 prog w E _ (wpAny_bind (wpAny_dictEpoch ho hd ?_)))))
        simp only [bne_self_eq_false, Bool.false_eq_true, if_false, hy, if_true, Option.isSome_none]
        refine wpAny_bind (wpAny_rule ?_)
        split
        · rename_i c; exact wpAny_pure (by simpa only [decide_eq_true c, if_true] using hR)
        · rename_i c; exact wpAny_pure (by simpa only [decide_eq_false c, Bool.false_eq_true, if_false] using hR)
      · obtain ⟨e, a, g1, g2, g3⟩ := pm i hi
        simp only [g2] at hy
        simp only [g1, g3, if_true]
        refine wpAny_bind (wpAny_dictEpoch ho hd (wpAny_bind (eq i e a g1 g2 prog w E _ (wpAny_bind (wpAny_dictEpoch ho hd ?_)))))
        simp only [bne_self_eq_false, Bool.false_eq_true, if_false, hy]
        exact wpAny_bind (wpAny_rule (wpAny_pure hR))
      · obtain ⟨r1, r2⟩ := r
        simp only at hr
        cases r1 with
        | none => simp only at hr ⊢; exact wpAny_pure (by rw [hr, pf]; exact q)
        | some r1 => simp only at hr ⊢; exact wpAny_pure (by rw [hr, pf]; exact q)
  | int i t =>
    dsimp only
    by_cases c : ((Value.int i t :: places.filterMap fun i => es[i]?.map (·.key)).all carriedByValue) = true
    · rw [if_pos c]
      refine wpAny_bind (walk_go (yes := fun j => match ks[j]? with | some a => PyData.eqv a (.int i) | none => false) places (fun i hi hy R hR => ?_) (fun i hi hy R hR => ?_) _ fun r hr => ?_)
      rotate_right 1
      · obtain ⟨r1, r2⟩ := r
        rw [pf] at hr
        cases r1 with
        | none => simp only at hr ⊢; exact wpAny_pure (by rw [hr]; exact q)
        | some r1 => simp only at hr ⊢; exact wpAny_pure (by rw [hr]; exact q)
      · obtain ⟨e, a, g1, g2, g3⟩ := pm i hi
        simp only [g2] at hy
        simp only [g1, g3, if_true]
        refine wpAny_bind (wpAny_dictEpoch ho hd (wpAny_bind (eq i e a g1 g2 prog w E _ (wpAny_bind (wpAny_dictEpoch ho hd ?_)))))
        simp only [bne_self_eq_false, Bool.false_eq_true, if_false, hy, if_true]
        exact wpAny_bind (wpAny_rule (wpAny_pure hR))
      · obtain ⟨e, a, g1, g2, g3⟩ := pm i hi
        simp only [g2] at hy
        simp only [g1, g3, if_true]
        refine wpAny_bind (wpAny_dictEpoch ho hd (wpAny_bind (eq i e a g1 g2 prog w E _ (wpAny_bind (wpAny_dictEpoch ho hd ?_)))))
        simp only [bne_self_eq_false, Bool.false_eq_true, if_false, hy]
        exact wpAny_bind (wpAny_rule (wpAny_pure hR))
    rw [if_neg c]
    by_cases c2 : ((places.filterMap fun i => es[i]?.map (·.key)) == [Value.int i t]) = true
    rw [if_pos c2]
    rotate_left
    rw [if_neg c2]
    all_goals first | refine wpAny_bind (wpAny_pure ?_) | refine wpAny_bind (may_no rk' hk hkd hst ?_)
    all_goals
      simp only [Bool.false_and, Bool.and_false, Bool.false_eq_true, if_false]
      refine wpAny_bind (scan_go (few := decide ((places.filterMap fun i => es[i]?.map (·.key)).length < 2)) places (fun i hi hy R hR => ?_) (fun i hi hy st R hR => ?_) pw none (fun h => absurd rfl h) _ fun r hr => ?_)
      · obtain ⟨e, a, g1, g2, g3⟩ := pm i hi
        simp only [g2] at hy
        simp only [g1, g3, if_true]
        refine wpAny_bind (wpAny_dictEpoch ho hd (wpAny_bind (eq i e a g1 g2 prog w E _ (wpAny_bind (wpAny_dictEpoch ho hd ?_)))))
        simp only [bne_self_eq_false, Bool.false_eq_true, if_false, hy, if_true, Option.isSome_none]
        refine wpAny_bind (wpAny_rule ?_)
        split
        · rename_i c; exact wpAny_pure (by simpa only [decide_eq_true c, if_true] using hR)
        · rename_i c; exact wpAny_pure (by simpa only [decide_eq_false c, Bool.false_eq_true, if_false] using hR)
      · obtain ⟨e, a, g1, g2, g3⟩ := pm i hi
        simp only [g2] at hy
        simp only [g1, g3, if_true]
        refine wpAny_bind (wpAny_dictEpoch ho hd (wpAny_bind (eq i e a g1 g2 prog w E _ (wpAny_bind (wpAny_dictEpoch ho hd ?_)))))
        simp only [bne_self_eq_false, Bool.false_eq_true, if_false, hy]
        exact wpAny_bind (wpAny_rule (wpAny_pure hR))
      · obtain ⟨r1, r2⟩ := r
        simp only at hr
        cases r1 with
        | none => simp only at hr ⊢; exact wpAny_pure (by rw [hr, pf]; exact q)
        | some r1 => simp only at hr ⊢; exact wpAny_pure (by rw [hr, pf]; exact q)
  | bool b =>
    dsimp only
    by_cases c : ((Value.bool b :: places.filterMap fun i => es[i]?.map (·.key)).all carriedByValue) = true
    · rw [if_pos c]
      refine wpAny_bind (walk_go (yes := fun j => match ks[j]? with | some a => PyData.eqv a (.bool b) | none => false) places (fun i hi hy R hR => ?_) (fun i hi hy R hR => ?_) _ fun r hr => ?_)
      rotate_right 1
      · obtain ⟨r1, r2⟩ := r
        rw [pf] at hr
        cases r1 with
        | none => simp only at hr ⊢; exact wpAny_pure (by rw [hr]; exact q)
        | some r1 => simp only at hr ⊢; exact wpAny_pure (by rw [hr]; exact q)
      · obtain ⟨e, a, g1, g2, g3⟩ := pm i hi
        simp only [g2] at hy
        simp only [g1, g3, if_true]
        refine wpAny_bind (wpAny_dictEpoch ho hd (wpAny_bind (eq i e a g1 g2 prog w E _ (wpAny_bind (wpAny_dictEpoch ho hd ?_)))))
        simp only [bne_self_eq_false, Bool.false_eq_true, if_false, hy, if_true]
        exact wpAny_bind (wpAny_rule (wpAny_pure hR))
      · obtain ⟨e, a, g1, g2, g3⟩ := pm i hi
        simp only [g2] at hy
        simp only [g1, g3, if_true]
        refine wpAny_bind (wpAny_dictEpoch ho hd (wpAny_bind (eq i e a g1 g2 prog w E _ (wpAny_bind (wpAny_dictEpoch ho hd ?_)))))
        simp only [bne_self_eq_false, Bool.false_eq_true, if_false, hy]
        exact wpAny_bind (wpAny_rule (wpAny_pure hR))
    rw [if_neg c]
    by_cases c2 : ((places.filterMap fun i => es[i]?.map (·.key)) == [Value.bool b]) = true
    rw [if_pos c2]
    rotate_left
    rw [if_neg c2]
    all_goals first | refine wpAny_bind (wpAny_pure ?_) | refine wpAny_bind (may_no rk' hk hkd hst ?_)
    all_goals
      simp only [Bool.false_and, Bool.and_false, Bool.false_eq_true, if_false]
      refine wpAny_bind (scan_go (few := decide ((places.filterMap fun i => es[i]?.map (·.key)).length < 2)) places (fun i hi hy R hR => ?_) (fun i hi hy st R hR => ?_) pw none (fun h => absurd rfl h) _ fun r hr => ?_)
      · obtain ⟨e, a, g1, g2, g3⟩ := pm i hi
        simp only [g2] at hy
        simp only [g1, g3, if_true]
        refine wpAny_bind (wpAny_dictEpoch ho hd (wpAny_bind (eq i e a g1 g2 prog w E _ (wpAny_bind (wpAny_dictEpoch ho hd ?_)))))
        simp only [bne_self_eq_false, Bool.false_eq_true, if_false, hy, if_true, Option.isSome_none]
        refine wpAny_bind (wpAny_rule ?_)
        split
        · rename_i c; exact wpAny_pure (by simpa only [decide_eq_true c, if_true] using hR)
        · rename_i c; exact wpAny_pure (by simpa only [decide_eq_false c, Bool.false_eq_true, if_false] using hR)
      · obtain ⟨e, a, g1, g2, g3⟩ := pm i hi
        simp only [g2] at hy
        simp only [g1, g3, if_true]
        refine wpAny_bind (wpAny_dictEpoch ho hd (wpAny_bind (eq i e a g1 g2 prog w E _ (wpAny_bind (wpAny_dictEpoch ho hd ?_)))))
        simp only [bne_self_eq_false, Bool.false_eq_true, if_false, hy]
        exact wpAny_bind (wpAny_rule (wpAny_pure hR))
      · obtain ⟨r1, r2⟩ := r
        simp only at hr
        cases r1 with
        | none => simp only at hr ⊢; exact wpAny_pure (by rw [hr, pf]; exact q)
        | some r1 => simp only at hr ⊢; exact wpAny_pure (by rw [hr, pf]; exact q)
  | str x t =>
    dsimp only
    by_cases c0 : (es.all fun e => isExactStrKey e.key) = true
    · rw [if_pos c0]
      have fe : es.findIdx? (fun e => e.key.isStr x) = ks.findIdx? fun z => PyData.eqv z (.str x) := by
        rw [show es.findIdx? (fun e => e.key.isStr x) = es.toList.findIdx? (fun e => e.key.isStr x) by obtain ⟨l⟩ := es; simp [List.findIdx?_toArray]]
        refine find_pair (by rw [Array.length_toList]; exact X.len) fun i e a h1 h2 => ?_
        have h1' : es[i]? = some e := by rw [← Array.getElem?_toList]; exact h1
        obtain ⟨_, as', r⟩ := X.at_ i e a h1' h2
        have c1 := Array.all_eq_true.mp c0 i (Array.getElem?_eq_some_iff.mp h1').1
        rw [(Array.getElem?_eq_some_iff.mp h1').2] at c1
        generalize e.key = kv at r c1
        cases kv with
        | str y u => cases r; rfl
        | _ => simp [isExactStrKey] at c1
      unfold foundByValue
      rw [fe]
      cases c3 : ks.findIdx? fun z => PyData.eqv z (.str x) with
      | none => rw [c3] at q; exact wpAny_pure q
      | some i =>
        rw [c3] at q
        have h9 := List.findIdx?_eq_some_iff_getElem.mp c3
        obtain ⟨hl, ht, _⟩ := h9
        obtain ⟨e, a, g1, g2, _⟩ := X.get (by rw [X.len]; exact hl)
        have ha : a = ks[i] := by rw [List.getElem?_eq_getElem hl] at g2; exact (Option.some.inj g2).symm
        subst ha
        simp only [g1]
        have e1 := eq i e _ g1 g2
        rw [ht] at e1
        refine wpAny_bind (wpAny_dictEpoch ho hd (wpAny_bind (e1 prog w E _ (wpAny_bind (wpAny_dictEpoch ho hd ?_)))))
        simp only [bne_self_eq_false, Bool.false_eq_true, if_false, if_true]
        exact wpAny_bind (wpAny_rule (wpAny_pure q))
    rw [if_neg c0]
    by_cases c : ((Value.str x t :: places.filterMap fun i => es[i]?.map (·.key)).all carriedByValue) = true
    · rw [if_pos c]
      refine wpAny_bind (walk_go (yes := fun j => match ks[j]? with | some a => PyData.eqv a (.str x) | none => false) places (fun i hi hy R hR => ?_) (fun i hi hy R hR => ?_) _ fun r hr => ?_)
      rotate_right 1
      · obtain ⟨r1, r2⟩ := r
        rw [pf] at hr
        cases r1 with
        | none => simp only at hr ⊢; exact wpAny_pure (by rw [hr]; exact q)
        | some r1 => simp only at hr ⊢; exact wpAny_pure (by rw [hr]; exact q)
      · obtain ⟨e, a, g1, g2, g3⟩ := pm i hi
        simp only [g2] at hy
        simp only [g1, g3, if_true]
        refine wpAny_bind (wpAny_dictEpoch ho hd (wpAny_bind (eq i e a g1 g2 prog w E _ (wpAny_bind (wpAny_dictEpoch ho hd ?_)))))
        simp only [bne_self_eq_false, Bool.false_eq_true, if_false, hy, if_true]
        exact wpAny_bind (wpAny_rule (wpAny_pure hR))
      · obtain ⟨e, a, g1, g2, g3⟩ := pm i hi
        simp only [g2] at hy
        simp only [g1, g3, if_true]
        refine wpAny_bind (wpAny_dictEpoch ho hd (wpAny_bind (eq i e a g1 g2 prog w E _ (wpAny_bind (wpAny_dictEpoch ho hd ?_)))))
        simp only [bne_self_eq_false, Bool.false_eq_true, if_false, hy]
        exact wpAny_bind (wpAny_rule (wpAny_pure hR))
    rw [if_neg c]
    by_cases c2 : ((places.filterMap fun i => es[i]?.map (·.key)) == [Value.str x t]) = true
    rw [if_pos c2]
    rotate_left
    rw [if_neg c2]
    all_goals first | refine wpAny_bind (wpAny_pure ?_) | refine wpAny_bind (may_no rk' hk hkd hst ?_)
    all_goals
      simp only [Bool.false_and, Bool.and_false, Bool.false_eq_true, if_false]
      refine wpAny_bind (scan_go (few := decide ((places.filterMap fun i => es[i]?.map (·.key)).length < 2)) places (fun i hi hy R hR => ?_) (fun i hi hy st R hR => ?_) pw none (fun h => absurd rfl h) _ fun r hr => ?_)
      · obtain ⟨e, a, g1, g2, g3⟩ := pm i hi
        simp only [g2] at hy
        simp only [g1, g3, if_true]
        refine wpAny_bind (wpAny_dictEpoch ho hd (wpAny_bind (eq i e a g1 g2 prog w E _ (wpAny_bind (wpAny_dictEpoch ho hd ?_)))))
        simp only [bne_self_eq_false, Bool.false_eq_true, if_false, hy, if_true, Option.isSome_none]
        refine wpAny_bind (wpAny_rule ?_)
        split
        · rename_i c; exact wpAny_pure (by simpa only [decide_eq_true c, if_true] using hR)
        · rename_i c; exact wpAny_pure (by simpa only [decide_eq_false c, Bool.false_eq_true, if_false] using hR)
      · obtain ⟨e, a, g1, g2, g3⟩ := pm i hi
        simp only [g2] at hy
        simp only [g1, g3, if_true]
        refine wpAny_bind (wpAny_dictEpoch ho hd (wpAny_bind (eq i e a g1 g2 prog w E _ (wpAny_bind (wpAny_dictEpoch ho hd ?_)))))
        simp only [bne_self_eq_false, Bool.false_eq_true, if_false, hy]
        exact wpAny_bind (wpAny_rule (wpAny_pure hR))
      · obtain ⟨r1, r2⟩ := r
        simp only at hr
        cases r1 with
        | none => simp only at hr ⊢; exact wpAny_pure (by rw [hr, pf]; exact q)
        | some r1 => simp only at hr ⊢; exact wpAny_pure (by rw [hr, pf]; exact q)
  | none => simp [hasK] at hk
  | list => simp [hasK] at hk
  | dict => simp [hasK] at hk
end
end DL

set_option Elab.async false
set_option linter.all false
set_option maxRecDepth 100000
set_option maxHeartbeats 4000000
set_option autoImplicit false
namespace DL
open PySem PySem.Spec PyProof.Rows L2
/-! ### parts of such data -/
theorem readsAll_mem {h : Heap} : ∀ {vs : List Value} {xs : List PyData} {as : List Addr} {v : Value}, ReadsAll h vs xs as → v ∈ vs → ∃ x ∈ xs, ∃ as', Reads h v x as'
  | _, _, _, v, .nil, hv => by cases hv
  | _, _, _, v, .cons r1 r2, hv => by
    rcases List.mem_cons.mp hv with rfl | hv
    · exact ⟨_, List.mem_cons_self, _, r1⟩
    · obtain ⟨x, hx, r⟩ := readsAll_mem r2 hv
      exact ⟨x, List.mem_cons_of_mem _ hx, r⟩
theorem hasKs_mem : ∀ {xs : List PyData} {x : PyData}, hasKs xs = true → x ∈ xs → hasK x = true
  | y :: ys, x, h, hx => by
    simp only [hasKs, Bool.and_eq_true] at h
    rcases List.mem_cons.mp hx with rfl | hx
    · exact h.1
    · exact hasKs_mem h.2 hx
theorem depth_mem : ∀ {xs : List PyData} {x : PyData} {n : Nat}, PyData.depthAll xs ≤ n → x ∈ xs → x.depth ≤ n
  | y :: ys, x, n, h, hx => by
    simp only [PyData.depthAll] at h
    rcases List.mem_cons.mp hx with rfl | hx
    · omega
    · exact depth_mem (by omega) hx
section
variable {prog : Program} {w : World}
/-- going through values, each of which may end it -/
theorem loop_two {M : Model} {A : Around} {E : Value → Shared → Prop} {s : Shared} {σ : Type} {x0 x1 : σ} {f : Value → σ → Sem (ForInStep σ)} {Q : σ → Shared → Prop} (q0 : Q x0 s) (q1 : Q x1 s) :
    ∀ (vs : List Value), (∀ v ∈ vs, ∀ (R : ForInStep σ → Shared → Prop), R (.yield x0) s → R (.done x1) s → wpAny M A (f v x0) R E s) → wpAny M A (forIn vs x0 f) Q E s
  | [], _ => by rw [List.forIn_nil]; exact wpAny_pure q0
  | v :: vs, h => by
    rw [List.forIn_cons]
    exact wpAny_bind (h v List.mem_cons_self _ (loop_two q0 q1 vs fun u hu => h u (List.mem_cons_of_mem _ hu)) (wpAny_pure q1))
/-- such data are of no class statement -/
theorem noclass_data : ∀ (n : Nat) (d : PyData) {A : Around} {E : Value → Shared → Prop} {s : Shared} {v : Value} {as : List Addr} {Q : Bool → Shared → Prop}, Reads s.heap v d as → hasK d = true → d.depth ≤ n → Q false s → wpAny (model prog w) A (ofAClassStatement n v) Q E s := by
  intro n
  induction n with
  | zero =>
    intro d A E s v as Q r hk hn q
    cases r with
    | tuple h1 h2 h3 h4 => simp [PyData.depth] at hn
    | list h1 h2 h3 h4 => simp [hasK] at hk
    | dict h1 => simp [hasK] at hk
    | _ => exact wpAny_pure q
  | succ n ih =>
    intro d A E s v as Q r hk hn q
    cases r with
    | tuple h1 h2 h3 h4 =>
      rename_i a o vs xs m
      simp only [hasK] at hk
      simp only [PyData.depth] at hn
      unfold ofAClassStatement
      refine wpAny_bind (wpAny_typeOf (T := "tuple") ⟨o, h1, h2⟩ ?_)
      have e : (("tuple" : String) == "tuple") = true := by decide
      simp only [e, if_true]
      refine wpAny_bind (wpAny_pure ?_)
      simp only [Bool.not_true, Bool.false_eq_true, if_false]
      refine wpAny_bind (wpAny_seqItems h1 h3 ?_)
      dsimp only
      refine wpAny_bind ?_
      rw [← Array.forIn_toList]
      refine calm_all vs.toList (fun v hv R hR => ?_) (wpAny_pure q)
      obtain ⟨x, hx, as', r⟩ := readsAll_mem h4 hv
      refine wpAny_bind (ih x r (hasKs_mem hk hx) (depth_mem (by omega) hx) ?_)
      exact wpAny_pure hR
    | list h1 h2 h3 h4 => simp [hasK] at hk
    | dict h1 => simp [hasK] at hk
    | _ => exact wpAny_pure q
/-- whether their hashes go by values is told quietly -/
theorem byval_data : ∀ (n : Nat) (d : PyData) {A : Around} {E : Value → Shared → Prop} {s : Shared} {v : Value} {as : List Addr} {Q : Bool → Shared → Prop}, Reads s.heap v d as → hasK d = true → (∀ b, Q b s) → wpAny (model prog w) A (hashByValue n v) Q E s := by
  intro n
  induction n with
  | zero =>
    intro d A E s v as Q r hk q
    cases r with
    | list h1 h2 h3 h4 => simp [hasK] at hk
    | dict h1 => simp [hasK] at hk
    | _ => exact wpAny_pure (q _)
  | succ n ih =>
    intro d A E s v as Q r hk q
    cases r with
    | tuple h1 h2 h3 h4 =>
      rename_i a o vs xs m
      simp only [hasK] at hk
      unfold hashByValue
      refine wpAny_bind (wpAny_specialOf (T := "tuple") ⟨o, h1, h2⟩ F.slot_tuple_hash.lookup ?_)
      show wpAny _ _ (seqItems? (.ref a) >>= _) _ _ s
      refine wpAny_bind (wpAny_seqItems h1 h3 (wpAny_bind ?_))
      show wpAny _ _ (forIn vs _ _) _ _ s
      rw [← Array.forIn_toList]
      refine loop_two (x1 := (some false, ())) (wpAny_pure (q _)) (wpAny_pure (q _)) vs.toList fun v hv R h0 h1 => ?_
      obtain ⟨x, hx, as', r⟩ := readsAll_mem h4 hv
      refine wpAny_bind (ih x r (hasKs_mem hk hx) fun b => ?_)
      cases b
      · exact wpAny_pure h1
      · exact wpAny_pure h0
    | list h1 h2 h3 h4 => simp [hasK] at hk
    | dict h1 => simp [hasK] at hk
    | _ => exact wpAny_pure (q _)
/-- a key as it stands in a heap -/
structure El (h : Heap) (p : Addr × PyData) : Prop where
  rd : ∃ as, Reads h (.ref p.1) p.2 as
  has : hasK p.2 = true
  dp : p.2.depth ≤ 8
section
variable {A : Around} {E : Value → Shared → Prop} {s : Shared}
theorem El.eq {p q : Addr × PyData} (hp : El s.heap p) (hq : El s.heap q) (hu : A.units + 10 < cLine) {Q : Bool → Shared → Prop} (h : Q (PyData.eqv p.2 q.2) s) : wpAny (model prog w) A (eqBool (.ref p.1) (.ref q.1)) Q E s := by
  obtain ⟨as, r1⟩ := hp.rd
  obtain ⟨bs, r2⟩ := hq.rd
  exact SeqAt.eqAt_plain p.2 q.2 A s _ _ _ _ r1 r2 (hasK_plain _ hp.has) (hasK_plain _ hq.has) (by have := Nat.min_le_left p.2.depth q.2.depth; have := hp.dp; omega) _ _ _ _ h
theorem El.seen {p : Addr × PyData} (hp : El s.heap p) {ys : List Value} (hy : ∀ y ∈ ys, ∃ q, y = Value.ref q.1 ∧ El s.heap q) {Q : Bool → Shared → Prop} (h : Q false s) : wpAny (model prog w) A (searchCouldBeSeen (.ref p.1) ys) Q E s := by
  obtain ⟨as, r1⟩ := hp.rd
  unfold searchCouldBeSeen
  refine wpAny_bind (calm_all ys (fun y hv R hR => ?_) (wpAny_pure h))
  obtain ⟨q, rfl, hq⟩ := hy y hv
  obtain ⟨bs, r2⟩ := hq.rd
  dsimp only
  split
  · exact wpAny_pure hR
  · refine wpAny_bind (quiet_data p.2 8 r1 hp.has hp.dp ?_)
    refine wpAny_bind (quiet_data q.2 8 r2 hq.has hq.dp ?_)
    refine wpAny_bind (noclass_data 8 p.2 r1 hp.has hp.dp ?_)
    refine wpAny_bind (noclass_data 8 q.2 r2 hq.has hq.dp ?_)
    exact wpAny_pure hR
end
end
/-! ### the table -/
/-- the c-th stand on a hash's way -/
abbrev stand (t : SetTable) (h : Int) (c : Nat) : SetTable.Probe := nth t.mask (t.probeStart h) c
theorem stand_bare (t : SetTable) (h : Int) : ∀ c, (stand t h c).dummy = none
  | 0 => rfl
  | c + 1 => by
    have ih := stand_bare t h c
    show (nth t.mask (t.probeStart h) (c + 1)).dummy = none
    rw [nth_succ]
    unfold adv
    split <;> exact ih
/-- what a look from the c-th stand on tells -/
theorem look_from {t : SetTable} {hs : List Int} (T : TabOk t hs) {at_ : Nat → Int} (hat : ∀ i, i < hs.length → hs[i]? = some (at_ i)) {h : Int} {c K : Nat} (hc : c ≤ K) (hf : K < 10 * SetTable.turns t.mask) (hK : way t.mask h K ∉ t.place.toList)
    (hb : ∀ k, k < K → way t.mask h k ∈ t.place.toList) :
    (∃ n i : Nat, c ≤ n ∧ n < K ∧ t.place.toList[i]? = some (way t.mask h n) ∧ hs[i]? = some h ∧ (∀ m j : Nat, c ≤ m → m < n → t.place.toList[j]? = some (way t.mask h m) → hs[j]? ≠ some h) ∧ t.probe at_ h (stand t h c) = some (.candidate (way t.mask h n) i (stand t h (n + 1)))) ∨
    ((∀ m j : Nat, c ≤ m → m < K → t.place.toList[j]? = some (way t.mask h m) → hs[j]? ≠ some h) ∧ t.probe at_ h (stand t h c) = some (.empty (way t.mask h K) none)) := by
  have sh : ∀ q, nth t.mask (stand t h c) q = stand t h (c + q) := fun q => (nth_add t.mask c _ q).symm
  have wy : ∀ q, (stand t h q).j = way t.mask h q := fun q => rfl
  have inh : ∀ {i j : Nat}, t.place.toList[i]? = some j → hs[i]? = some (at_ i) := fun {i j} e => hat i (by
    have h1 := (List.getElem?_eq_some_iff.mp e).1
    rw [Array.length_toList, T.sz] at h1
    exact h1)
  rcases go_spec t T.ris T.dm at_ h (10 * SetTable.turns t.mask) (K - c) (stand t h c) (stand_bare t h c) (by omega) (fun q hq => by rw [sh, wy]; exact hb _ (by omega)) (by rw [sh, wy, show c + (K - c) = K by omega]; exact hK) with ⟨q, i, h1, h2, h3, h4, h5⟩ | ⟨h1, h2⟩
  · rw [sh, wy] at h2
    refine .inl ⟨c + q, i, by omega, by omega, h2, by rw [inh h2, h3], fun m j a b e z => ?_, ?_⟩
    · refine h4 (m - c) j (by omega) (by rw [sh, wy, show c + (m - c) = m by omega]; exact e) ?_
      rw [inh e] at z
      exact Option.some.inj z
    · rw [sh, sh, wy] at h5
      exact h5
  · refine .inr ⟨fun m j a b e z => ?_, ?_⟩
    · refine h1 (m - c) j (by omega) (by rw [sh, wy, show c + (m - c) = m by omega]; exact e) ?_
      rw [inh e] at z
      exact Option.some.inj z
    · rw [sh, wy, show c + (K - c) = K by omega] at h2
      exact h2
end DL

set_option Elab.async false
set_option linter.all false
set_option maxRecDepth 100000
set_option maxHeartbeats 4000000
set_option autoImplicit false
namespace DL
open PySem PySem.Spec PyProof.Rows L2
/-! ### sets of such data -/
abbrev El.row (w : World) (p : Addr × PyData) : Int × Value := (hshK w p.2, .ref p.1)
structure SetN (w : World) (h : Heap) (a : Addr) (L : List (Addr × PyData)) (es : Array (Int × Value)) (ep : Nat) (t : SetTable) : Prop where
  ob : ∃ o, h.get? a = some o ∧ o.ExactSet ∧ o.data = .set es ep t
  rows : es.toList = L.map (El.row w)
  tab : TabOk t (L.map fun p => hshK w p.2)
  els : ∀ p ∈ L, El h p
  room : L.length * 5 < t.mask * 3
  few : L.length < 64
abbrev inK (L : List (Addr × PyData)) (k : PyData) : Bool := L.any fun p => PyData.eqv p.2 k
section
variable {prog : Program} {w : World} {A : Around} {E : Value → Shared → Prop} {s : Shared} {a : Addr} {L : List (Addr × PyData)} {es : Array (Int × Value)} {ep : Nat} {t : SetTable} {x : Addr × PyData}
theorem SetN.size (R : SetN w s.heap a L es ep t) : es.size = L.length := by
  rw [← Array.length_toList, R.rows, List.length_map]
theorem fits_few (h1 : t.dummies = #[]) (h2 : t.place.size = es.size) (h3 : es.size ≤ t.mask) : t.fits es.size = true := by
  unfold SetTable.fits SetTable.fill
  rw [h1, h2]
  simpa using h3
theorem SetN.fits (R : SetN w s.heap a L es ep t) : t.fits es.size = true := by
  have h1 := R.tab.sz
  rw [List.length_map, ← R.size] at h1
  have := R.room
  have := R.size
  exact fits_few R.tab.dm h1 (by omega)
theorem SetN.row (R : SetN w s.heap a L es ep t) (i : Nat) : es[i]? = L[i]?.map (El.row w) := by
  rw [← Array.getElem?_toList, R.rows, List.getElem?_map]
/-- the search, from a stand on behind which all that are like it are -/
theorem SetN.seek (R : SetN w s.heap a L es ep t) (hx : El s.heap x) (hu : A.units + 10 < cLine) {K : Nat} (hf : K < 10 * SetTable.turns t.mask) (hK : way t.mask (hshK w x.2) K ∉ t.place.toList) (hb : ∀ k, k < K → way t.mask (hshK w x.2) k ∈ t.place.toList)
    {Q : SetFound → Shared → Prop} (yes : inK L x.2 = true → Q (.there none) s) (no : inK L x.2 = false → Q (.free (way t.mask (hshK w x.2) K) false) s) :
    ∀ (n c : Nat) (from_ : Option SetTable.Probe), from_.getD (t.probeStart (hshK w x.2)) = stand t (hshK w x.2) c → c ≤ K → K < c + n →
      (∀ (i m : Nat) (p : Addr × PyData), L[i]? = some p → PyData.eqv p.2 x.2 = true → t.place.toList[i]? = some (way t.mask (hshK w x.2) m) → m < K → ∃ m', way t.mask (hshK w x.2) m' = way t.mask (hshK w x.2) m ∧ c ≤ m' ∧ m' < K) →
      wpAny (model prog w) A (setSearchFrom a (.ref x.1) (hshK w x.2) true n from_) Q E s := by
  obtain ⟨o, ho, hex, hd⟩ := R.ob
  have gw : t.gaveWay = false := by unfold SetTable.gaveWay; rw [mask_odd R.tab.mok]; rfl
  have hat : ∀ i, i < (L.map fun p => hshK w p.2).length → (L.map fun p => hshK w p.2)[i]? = some ((fun i => (es[i]?.map (·.1)).getD 0) i) := fun i hi => by
    rw [List.length_map] at hi
    simp only [List.getElem?_map, R.row i, List.getElem?_eq_getElem hi, Option.map_some, Option.getD_some]
  have lists : ∀ {i j : Nat}, t.place.toList[i]? = some j → i < L.length := fun {i j} e => by
    have := (List.getElem?_eq_some_iff.mp e).1
    rw [Array.length_toList, R.tab.sz, List.length_map] at this
    exact this
  intro n
  induction n with
  | zero => intro c _ _ h1 h2 _; omega
  | succ n ih =>
    intro c from_ hfr hc hn hre
    rw [setSearchFrom_succ]
    refine wpAny_bind (wpAny_setState_of ho hd R.fits ?_)
    simp only [gw, Bool.false_eq_true, if_false, hfr]
    rcases look_from R.tab hat hc hf hK hb with ⟨m, i, h1, h2, h3, h4, h5, h6⟩ | ⟨h1, h2⟩
    · have hi := lists h3
      have hp : L[i]? = some L[i] := List.getElem?_eq_getElem hi
      have hel := R.els L[i] (List.getElem_mem hi)
      have he : es[i]? = some (El.row w L[i]) := by rw [R.row, hp]; rfl
      have tail : wpAny (model prog w) A (searchRest a (.ref x.1) (hshK w x.2) true n es t (way t.mask (hshK w x.2) m) i (stand t (hshK w x.2) (m + 1))) Q E s := by
        unfold searchRest
        simp only [he]
        refine wpAny_bind (wpAny_holding (hel.eq hx hu ?_))
        refine wpAny_bind (wpAny_setState_of ho hd R.fits ?_)
        cases c1 : PyData.eqv L[i].2 x.2 with
        | true =>
          simp only [Bool.and_true, if_true]
          exact wpAny_pure (yes (List.any_eq_true.mpr ⟨_, List.getElem_mem hi, c1⟩))
        | false =>
          have sl : t.slot (way t.mask (hshK w x.2) m) = .live i := slot_live R.tab.ris h3
          simp only [Bool.and_false, Bool.false_eq_true, if_false, sameMem, if_true, sl, he]
          refine wpAny_bind (wpAny_isSame_ref_self (wpAny_bind (wpAny_pure ?_)))
          simp only [if_true]
          refine ih (m + 1) _ rfl (by omega) (by omega) fun i0 m0 p0 e1 e2 e3 e4 => ?_
          obtain ⟨m1, w1, w2, w3⟩ := hre i0 m0 p0 e1 e2 e3 e4
          refine ⟨m1, w1, ?_, w3⟩
          have hh : hshK w p0.2 = hshK w x.2 := eqv_hsh w _ _ (R.els p0 (List.mem_of_getElem? e1)).has hx.has e2
          have hl : (L.map fun p => hshK w p.2)[i0]? = some (hshK w x.2) := by rw [List.getElem?_map, e1, ← hh]; rfl
          rcases Nat.lt_trichotomy m1 m with z | z | z
          · exact absurd hl (h5 m1 i0 w2 z (by rw [w1]; exact e3))
          · subst z
            rw [← w1] at e3
            have s2 := slot_live R.tab.ris e3
            rw [sl] at s2
            injection s2 with s2
            subst s2
            rw [hp] at e1
            cases e1
            rw [c1] at e2
            cases e2
          · omega
      rw [h6]
      dsimp only
      cases hl : t.led with
      | true => exact tail
      | false =>
        simp only [Bool.not_false, if_true]
        refine wpAny_bind (hx.seen (fun y hy => ?_) ?_)
        · obtain ⟨e, he1, rfl⟩ := List.mem_map.mp hy
          have he2 : e ∈ es.toList := by
            have := (Array.mem_toList_iff.mp he1)
            rw [Array.mem_filter] at this
            exact Array.mem_toList_iff.mpr this.1
          rw [R.rows] at he2
          obtain ⟨q, hq, rfl⟩ := List.mem_map.mp he2
          exact ⟨q, rfl, R.els q hq⟩
        · exact tail
    · rw [h2]
      refine wpAny_pure (no ?_)
      rw [Bool.eq_false_iff]
      intro z
      obtain ⟨p, hp, e⟩ := List.any_eq_true.mp z
      obtain ⟨i, hi, rfl⟩ := List.getElem_of_mem hp
      have hp0 : L[i]? = some L[i] := List.getElem?_eq_getElem hi
      have hh : hshK w L[i].2 = hshK w x.2 := eqv_hsh w _ _ (R.els _ hp).has hx.has e
      have hl : (L.map fun p => hshK w p.2)[i]? = some (hshK w x.2) := by rw [List.getElem?_map, hp0, ← hh]; rfl
      have hpl : i < t.place.toList.length := by rw [Array.length_toList, R.tab.sz, List.length_map]; exact hi
      have hj := List.getElem?_eq_getElem hpl
      obtain ⟨m, hm, w0⟩ := R.tab.before hK hl hj
      rw [← w0] at hj
      obtain ⟨m', w1, w2, w3⟩ := hre i m _ hp0 e hj hm
      exact h1 m' i w2 w3 (by rw [w1]; exact hj) hl
/-- the search as adding asks for it -/
theorem SetN.search (R : SetN w s.heap a L es ep t) (hx : El s.heap x) (hu : A.units + 10 < cLine) {Q : SetFound → Shared → Prop} (yes : inK L x.2 = true → Q (.there none) s)
    (no : ∀ K, inK L x.2 = false → way t.mask (hshK w x.2) K ∉ t.place.toList → (∀ c, c < K → way t.mask (hshK w x.2) c ∈ t.place.toList) → Q (.free (way t.mask (hshK w x.2) K) false) s) :
    wpAny (model prog w) A (setSearch a (.ref x.1) (hshK w x.2) true) Q E s := by
  have := R.room
  obtain ⟨K, hf, hK, hb⟩ := R.tab.first (by rw [List.length_map]; omega) (hshK w x.2)
  have big : K < 100000 := by
    have := R.tab.mok
    unfold SetTable.turns at hf
    rcases this with e | e | e <;> rw [e] at hf <;> omega
  exact R.seek hx hu hf hK hb yes (fun z => no K z hK hb) 100000 0 none rfl (Nat.zero_le _) (by omega) fun i m p _ _ _ hm => ⟨m, rfl, Nat.zero_le _, hm⟩
end
end DL

set_option Elab.async false
set_option linter.all false
set_option maxRecDepth 100000
set_option maxHeartbeats 4000000
set_option autoImplicit false
namespace DL
open PySem PySem.Spec PyProof.Rows L2
/-! ### what reads does so where all but a set stays -/
section
variable {h h' : Heap} {a : Addr}
mutual
theorem reads_but (na : ∀ o vs n, h.get? a = some o → o.data ≠ .seq vs n) (sb : Heap.SameBut a h h') : ∀ (d : PyData) {v : Value} {as : List Addr}, hasK d = true → Reads h v d as → Reads h' v d as
  | .tuple xs, v, as, hk, r => by
    cases r with
    | tuple h1 h2 h3 h4 =>
      simp only [hasK] at hk
      refine .tuple ((sb.2 _ fun z => ?_).trans h1) h2 h3 (readsAll_but na sb xs hk h4)
      subst z
      exact na _ _ _ h1 h3
  | .int i, v, as, _, r => by cases r; constructor
  | .str x, v, as, _, r => by cases r; constructor
  | .bool b, v, as, _, r => by cases r; constructor
  | .none, v, as, hk, _ => by simp [hasK] at hk
  | .list _, v, as, hk, _ => by simp [hasK] at hk
  | .dict _, v, as, hk, _ => by simp [hasK] at hk
theorem readsAll_but (na : ∀ o vs n, h.get? a = some o → o.data ≠ .seq vs n) (sb : Heap.SameBut a h h') : ∀ (ds : List PyData) {vs : List Value} {as : List Addr}, hasKs ds = true → ReadsAll h vs ds as → ReadsAll h' vs ds as
  | [], _, _, _, r => by cases r; constructor
  | d :: ds, _, _, hk, r => by
    cases r with
    | cons r1 r2 =>
      simp only [hasKs, Bool.and_eq_true] at hk
      exact .cons (reads_but na sb d hk.1 r1) (readsAll_but na sb ds hk.2 r2)
end
end
/-- a list by an order of its places -/
theorem by_order {α β : Type} (f : α → β) (L : List α) (es : Array β) (hr : es.toList = L.map f) (order : Array Nat) (hp : order.toList.Perm (List.range L.length)) :
    ∃ L' : List α, (order.filterMap (es[·]?)).toList = L'.map f ∧ L'.Perm L ∧ ∀ (g : β → Int) (z : Int), L'.map (fun p => g (f p)) = order.toList.map fun i => (es.map g).getD i z := by
  have at_ : ∀ i : Nat, es[i]? = L[i]?.map f := fun i => by rw [← Array.getElem?_toList, hr, List.getElem?_map]
  have lt : ∀ i ∈ order.toList, i < L.length := fun i hi => List.mem_range.mp (hp.mem_iff.mp hi)
  have e : ∀ M : List α, (List.range M.length).filterMap (fun i => M[i]?) = M := fun M => by
    have h1 : ∀ i ∈ List.range M.length, M[i]? = (fun i => M[i]?) i := fun _ _ => rfl
    refine List.ext_getElem? fun i => ?_
    have : ∀ l : List Nat, (∀ j ∈ l, j < M.length) → ∀ i : Nat, (l.filterMap fun j => M[j]?)[i]? = l[i]?.bind fun j => M[j]? := by
      intro l
      induction l with
      | nil => intro _ i; simp
      | cons j l ih =>
        intro hl i
        have hj := List.getElem?_eq_getElem (hl j List.mem_cons_self)
        rw [List.filterMap_cons_some hj]
        cases i with
        | zero => simp only [List.getElem?_cons_zero, Option.bind_some, hj]
        | succ i => simp only [List.getElem?_cons_succ]; exact ih (fun q hq => hl q (List.mem_cons_of_mem _ hq)) i
    rw [this _ (fun j hj => List.mem_range.mp hj)]
    rcases Nat.lt_or_ge i M.length with c | c
    · rw [List.getElem?_range c]; rfl
    · rw [List.getElem?_eq_none (by simpa using c), List.getElem?_eq_none c]; rfl
  refine ⟨order.toList.filterMap fun i => L[i]?, ?_, ?_, fun g z => ?_⟩
  · rw [Array.toList_filterMap, List.map_filterMap]
    exact congrArg (fun q => order.toList.filterMap q) (funext at_)
  · have := hp.filterMap fun i => L[i]?
    rw [e L] at this
    exact this
  · revert lt
    generalize order.toList = l
    intro lt
    induction l with
    | nil => rfl
    | cons i l ih =>
      have hi := List.getElem?_eq_getElem (lt i List.mem_cons_self)
      rw [List.filterMap_cons_some hi, List.map_cons, List.map_cons, ih fun j hj => lt j (List.mem_cons_of_mem _ hj)]
      congr 1
      rw [Array.getD_eq_getD_getElem?, Array.getElem?_map, at_, hi]
      rfl
section
variable {prog : Program} {w : World} {A : Around} {E : Value → Shared → Prop} {s : Shared} {a : Addr} {L : List (Addr × PyData)} {es : Array (Int × Value)} {ep : Nat} {t : SetTable} {x : Addr × PyData} {o : Obj}
theorem El.but {h h' : Heap} {p : Addr × PyData} (hp : El h p) (ho : h.get? a = some o) (hd : o.data = .set es ep t) (sb : Heap.SameBut a h h') : El h' p := by
  obtain ⟨⟨as, r⟩, h2, h3⟩ := hp
  refine ⟨⟨as, reads_but (a := a) (fun o' vs n e z => ?_) sb _ h2 r⟩, h2, h3⟩
  rw [ho] at e
  cases e
  rw [hd] at z
  cases z
/-- the table laid anew -/
theorem set_grow (ho : s.heap.get? a = some o) (hex : o.ExactSet) (hd : o.data = .set es ep t) (hr : es.toList = L.map (El.row w)) (tab : TabOk t (L.map fun p => hshK w p.2)) (els : ∀ p ∈ L, El s.heap p) (few : L.length < 64) (le : L.length ≤ t.mask)
    {want M : Nat} (hw : SetTable.sizeAbove want = M + 1) (hM : MaskOk M) (hn : L.length * 5 < M * 3) {Q : Unit → Shared → Prop}
    (q : ∀ h' L' es' ep' t', Heap.SameBut a s.heap h' → SetN w h' a L' es' ep' t' → L'.Perm L → Q () { s with heap := h' }) : wpAny (model prog w) A (setRelay a want) Q E s := by
  have sz : es.size = L.length := by rw [← Array.length_toList, hr, List.length_map]
  have mb : M ≤ 127 := by rcases hM with e | e | e <;> omega
  have psz := tab.sz
  rw [List.length_map] at psz
  obtain ⟨t', order, e1, e2, e3, e4, _, _, e5⟩ := relaid_ok t (hs := es.map (·.1)) (wanted := want) (M := M) (by omega) hM (by rw [Array.size_map, sz]; omega)
  rw [Array.size_map, sz] at e2
  obtain ⟨L', l1, l2, l3⟩ := by_order (El.row w) L es hr order e2
  have l4 := l3 (fun p => p.1) 0
  have e3' : TabOk t' (L'.map fun p => hshK w p.2) := by
    have : (L'.map fun p => hshK w p.2) = order.toList.map fun i => (es.map (fun p => p.1)).getD i 0 := l4
    rw [this]; exact e3
  have sz' : (order.filterMap (es[·]?)).size = L.length := by rw [← Array.length_toList, l1, List.length_map, l2.length_eq]
  rw [setRelay_eq]
  refine wpAny_bind (wpAny_setState_of ho hd (fits_few tab.dm (by omega) (by omega)) ?_)
  dsimp only
  rw [if_neg (by rw [hw, sizeLine_eq]; omega), e1]
  refine wpAny_bind ?_
  dsimp only
  rw [if_neg (by rw [sz', sz]; simp)]
  refine wpAny_pure ?_
  refine wpAny_storeSet_of ho hd ?_ (by rw [sz', sizeLine_eq]; omega)
  have sb : Heap.SameBut a s.heap (s.heap.update a (Obj.putSet (order.filterMap (es[·]?)) t')) := Heap.SameBut.update ..
  exact q _ L' _ (ep + 1) t' sb ⟨⟨_, store_at ho hd, ⟨hex.1, hex.2.1, hex.2.2⟩, rfl⟩, l1, e3', fun p hp => (els p (l2.mem_iff.mp hp)).but ho hd sb, by rw [l2.length_eq, e4]; exact hn, by rw [l2.length_eq]; exact few⟩ l2
/-- a key put into the set -/
theorem SetN.add (R : SetN w s.heap a L es ep t) (hx : El s.heap x) (hu : A.units + 10 < cLine) (few : L.length + 1 < 64) {Q : Bool → Shared → Prop}
    (q : ∀ b h' L' es' ep' t', Heap.SameBut a s.heap h' → SetN w h' a L' es' ep' t' → (if inK L x.2 then L' = L else L'.Perm (x :: L)) → Q b { s with heap := h' }) : wpAny (model prog w) A (setAddHashed a (.ref x.1) (hshK w x.2)) Q E s := by
  obtain ⟨o, ho, hex, hd⟩ := R.ob
  have sz := R.size
  have room := R.room
  unfold setAddHashed
  refine wpAny_holding ?_
  rw [show (100000 : Nat) = 99999 + 1 from rfl, setAddHashedIn_succ]
  refine wpAny_bind (wpAny_setState_of ho hd R.fits ?_)
  dsimp only
  rw [if_neg (by simp [byScan, Value.scannable])]
  refine wpAny_bind (R.search hx hu (fun c => ?_) fun K c hK hb => ?_)
  · exact wpAny_pure (q false s.heap L es ep t (Heap.SameBut.refl a s.heap) R (by rw [c]; rfl))
  · refine wpAny_bind (wpAny_setState_of ho hd R.fits ?_)
    obtain ⟨q1, q2, q3, q4, _, _, _, _, q9⟩ := R.tab.put hK hb
    dsimp only
    generalize t.put (way t.mask (hshK w x.2) K) = pt at q1 q3 q4 q9 ⊢
    obtain ⟨t1, p⟩ := pt
    dsimp only at q1 q3 q4 q9 ⊢
    subst q1
    generalize SetTable.below t.place (way t.mask (hshK w x.2) K) = p at q2 q3 ⊢
    have pm : (L.take p ++ x :: L.drop p).Perm (x :: L) := put_perm L p x
    have rows1 : (SetTable.insertAt es p (hshK w x.2, Value.ref x.1)).toList = (L.take p ++ x :: L.drop p).map (El.row w) := by
      rw [SetTable.toList_insertAt, R.rows, List.map_append, List.map_cons, List.map_take, List.map_drop]
    have hs1 : (L.map fun p => hshK w p.2).take p ++ hshK w x.2 :: (L.map fun p => hshK w p.2).drop p = (L.take p ++ x :: L.drop p).map fun p => hshK w p.2 := by
      rw [List.map_append, List.map_cons, List.map_take, List.map_drop]
    rw [hs1] at q3
    have len1 : (L.take p ++ x :: L.drop p).length = L.length + 1 := by rw [pm.length_eq]; rfl
    have cont : ∀ b : Bool, wpAny (model prog w) A (do
        storeSet a (SetTable.insertAt es p (hshK w x.2, Value.ref x.1)) (if b = true then t1 else { t1 with plain := false })
        if (!false && (if b = true then t1 else { t1 with plain := false }).tooFull) = true then setRelay a (SetTable.grown (es.size + 1))
        pure true) Q E s := by
      intro b
      obtain ⟨t2, h2⟩ : ∃ t2, t2 = (if b = true then t1 else { t1 with plain := false }) := ⟨_, rfl⟩
      have T2 : TabOk t2 ((L.take p ++ x :: L.drop p).map fun p => hshK w p.2) ∧ t2.mask = t.mask ∧ t2.fill = L.length + 1 := by
        rw [h2]
        rw [List.length_map] at q9
        cases b
        · exact ⟨⟨q3.ris, q3.dm, q3.sz, q3.mok, q3.bd, q3.reach⟩, q4, q9⟩
        · exact ⟨q3, q4, q9⟩
      rw [← h2]
      obtain ⟨T2, m2, f2⟩ := T2
      generalize SetTable.insertAt es p (hshK w x.2, Value.ref x.1) = es1 at rows1 ⊢
      have sz1 : es1.size = L.length + 1 := by rw [← Array.length_toList, rows1, List.length_map, len1]
      generalize L.take p ++ x :: L.drop p = L1 at *
      refine wpAny_bind (wpAny_storeSet_of ho hd ?_ (by rw [sz1, sizeLine_eq]; omega))
      have sb : Heap.SameBut a s.heap (s.heap.update a (Obj.putSet es1 t2)) := Heap.SameBut.update ..
      have ho1 := store_at (es' := es1) (t' := t2) ho hd
      generalize s.heap.update a (Obj.putSet es1 t2) = h1 at sb ho1 ⊢
      have els1 : ∀ p ∈ L1, El h1 p := fun p hp => by
        rcases List.mem_cons.mp (pm.mem_iff.mp hp) with e | hp
        · rw [e]; exact hx.but ho hd sb
        · exact (R.els p hp).but ho hd sb
      have tf : t2.tooFull = decide ((L.length + 1) * 5 ≥ t.mask * 3) := by unfold SetTable.tooFull; rw [f2, m2]
      rw [tf]
      by_cases full : (L.length + 1) * 5 ≥ t.mask * 3
      · simp only [Bool.not_false, Bool.true_and, decide_eq_true full, if_true]
        have two : L.length = 4 ∨ L.length = 18 := by rcases R.tab.mok with e | e | e <;> rw [e] at full room <;> omega
        have grow : ∀ M, SetTable.sizeAbove (SetTable.grown (es.size + 1)) = M + 1 → MaskOk M → (L.length + 1) * 5 < M * 3 → wpAny (model prog w) A (setRelay a (SetTable.grown (es.size + 1)) >>= fun _ => pure true) Q E { s with heap := h1 } := fun M g1 g2 g3 => by
          refine wpAny_bind (set_grow (s := { s with heap := h1 }) (L := L1) ho1 ⟨hex.1, hex.2.1, hex.2.2⟩ rfl rows1 T2 els1 (by omega) (by omega) g1 g2 (by omega) fun h' L' es' ep' t' sb' R' pm' => ?_)
          exact wpAny_pure (q true h' L' es' ep' t' (sb.trans sb') R' (by rw [c]; exact pm'.trans pm))
        rcases two with e | e
        · exact grow 31 (by rw [sz, e, size_20]) (.inr (.inl rfl)) (by omega)
        · exact grow 127 (by rw [sz, e, size_76]) (.inr (.inr rfl)) (by omega)
      · simp only [Bool.not_false, Bool.true_and, decide_eq_false full, Bool.false_eq_true, if_false]
        exact wpAny_pure (q true h1 L1 es1 (ep + 1) t2 sb ⟨⟨_, ho1, ⟨hex.1, hex.2.1, hex.2.2⟩, rfl⟩, rows1, T2, els1, by omega, by omega⟩ (by rw [c]; exact pm))
    obtain ⟨as, r⟩ := hx.rd
    cases pl : t1.plain with
    | true =>
      simp only [if_true]
      exact wpAny_bind (byval_data 8 x.2 r hx.has fun b => cont b)
    | false =>
      simp only [Bool.false_eq_true, if_false]
      exact wpAny_bind (wpAny_pure (cont true))
end
end DL

set_option Elab.async false
set_option linter.all false
set_option maxRecDepth 100000
set_option maxHeartbeats 4000000
set_option autoImplicit false
namespace DL
open PySem PySem.Spec PyProof.Rows L2
/-! ### a set filled from anything that is walked, by what holds behind each item -/
section
variable {prog : Program} {w : World} {A : Around} {R : Result → Shared → Prop} {I : Addr} {fp wr : List Addr} {G : Array GenState → Array GenState → Prop} {n : Nat} {P : Nat → Value → Prop} {St : Nat → Shared → Prop}
end
section
variable {prog : Program} {w : World} {A : Around} {E : Value → Shared → Prop} {s : Shared}
end
end DL

set_option Elab.async false
set_option linter.all false
set_option maxRecDepth 100000
set_option maxHeartbeats 4000000
set_option autoImplicit false
namespace DL
open PySem PySem.Spec PyProof.Rows L2
/-! ### len(set(..)) of nested data -/
def kStep (acc : List PyData) (k : PyData) : List PyData := if acc.any (fun z => PyData.eqv z k) then acc else acc ++ [k]
def kSet (ks : List PyData) : List PyData := ks.foldl kStep []
theorem kSet_snoc (ks : List PyData) (k : PyData) : kSet (ks ++ [k]) = kStep (kSet ks) k := by unfold kSet; rw [List.foldl_append]; rfl
theorem kStep_len (acc : List PyData) (k : PyData) : (kStep acc k).length ≤ acc.length + 1 := by unfold kStep; split <;> simp
theorem kSet_le : ∀ (ks acc : List PyData), (ks.foldl kStep acc).length ≤ acc.length + ks.length
  | [], acc => Nat.le_refl _
  | k :: ks, acc => by
    have h1 := kSet_le ks (kStep acc k)
    have h2 := kStep_len acc k
    simp only [List.foldl_cons, List.length_cons]
    omega
section
variable {prog : Program} {w : World} {A : Around} {E : Value → Shared → Prop} {s : Shared}
/-- the set holds what has come, each once -/
structure Came (w : World) (h0 h : Heap) (S : Addr) (ks : List (Addr × PyData)) (i : Nat) : Prop where
  keeps : ∀ b o, h0.get? b = some o → h.get? b = some o
  set : ∃ L es ep t, SetN w h S L es ep t ∧ (∀ p ∈ L, p ∈ ks) ∧ L.length = (kSet ((ks.take i).map (·.2))).length ∧ ∀ z, hasK z = true → inK L z = (kSet ((ks.take i).map (·.2))).any fun y => PyData.eqv y z
theorem Came.next {h0 : Heap} {S : Addr} {ks : List (Addr × PyData)} (els : ∀ p ∈ ks, El h0 p) (few : ks.length < 64) (hS : h0.get? S = none) (hu : A.units + 20 < cLine) {i : Nat} {x : Addr × PyData} (hi : ks[i]? = some x) (C : Came w h0 s.heap S ks i) {Q : Bool → Shared → Prop}
    (q : ∀ b h' tk, s.toks ≤ tk → Heap.SameBut S s.heap h' → Came w h0 h' S ks (i + 1) → Q b { s with heap := h', toks := tk }) : wpAny (model prog w) A (setAdd S (.ref x.1)) Q E s := by
  obtain ⟨L, es, ep, t, N, sub, len, mem⟩ := C.set
  have hx0 := els x (List.mem_of_getElem? hi)
  have up : ∀ p ∈ ks, El s.heap p := fun p hp => by
    obtain ⟨⟨as, r⟩, h2, h3⟩ := els p hp
    exact ⟨⟨as, Reads.keeps C.keeps r⟩, h2, h3⟩
  have hx := up x (List.mem_of_getElem? hi)
  obtain ⟨as, r⟩ := hx.rd
  have il : i < ks.length := (List.getElem?_eq_some_iff.mp hi).1
  have lt : L.length ≤ i := by
    rw [len]
    have := kSet_le ((ks.take i).map (·.2)) []
    rw [List.length_map, List.length_take] at this
    simp only [List.length_nil] at this
    unfold kSet
    omega
  unfold setAdd
  refine wpAny_holding (wpAny_bind (hash_data x.2 r hx.has (by have := hx.dp; omega) ?_))
  refine SetN.add (s := { s with toks := s.toks + drwK x.2 }) N hx (by omega) (by omega) fun b h' L' es' ep' t' sb N' hL => ?_
  have tk : (ks.take (i + 1)).map (·.2) = (ks.take i).map (·.2) ++ [x.2] := by rw [List.take_add_one, hi, List.map_append]; rfl
  refine q b h' _ (Nat.le_add_right _ _) sb ⟨fun c o e => (sb.2 c fun z => by rw [z, hS] at e; cases e).trans (C.keeps c o e), L', es', ep', t', N', ?_⟩
  rw [tk, kSet_snoc]
  have mx := mem x.2 hx.has
  unfold kStep
  rw [← mx]
  cases c : inK L x.2 with
  | true =>
    rw [c] at hL
    simp only [if_true] at hL
    subst hL
    exact ⟨sub, len, mem⟩
  | false =>
    rw [c] at hL
    simp only [Bool.false_eq_true, if_false] at hL ⊢
    refine ⟨fun p hp => ?_, by rw [hL.length_eq, List.length_cons, List.length_append, len]; rfl, fun z hz => ?_⟩
    · rcases List.mem_cons.mp (hL.mem_iff.mp hp) with e | hp
      · rw [e]; exact List.mem_of_getElem? hi
      · exact sub p hp
    · rw [List.any_append, ← mem z hz]
      show L'.any _ = _
      rw [hL.any_eq]
      simp only [List.any_cons, List.any_nil, Bool.or_false]
      exact Bool.or_comm _ _
theorem Came.keep {h0 h h' : Heap} {S : Addr} {ks : List (Addr × PyData)} {i : Nat} {wr : List Addr} (els : ∀ p ∈ ks, El h0 p) (hS : S ∉ wr) (h1 : ∀ b ∈ wr, h0.get? b = none) (k : ∀ b o, b ∉ wr → h.get? b = some o → h'.get? b = some o) (C : Came w h0 h S ks i) : Came w h0 h' S ks i := by
  obtain ⟨L, es, ep, t, N, sub, rest⟩ := C.set
  have kp : ∀ b o, h0.get? b = some o → h'.get? b = some o := fun b o e => k b o (fun z => by rw [h1 b z] at e; cases e) (C.keeps b o e)
  obtain ⟨o, ho, r⟩ := N.ob
  refine ⟨kp, L, es, ep, t, ⟨⟨o, k S o hS ho, r⟩, N.rows, N.tab, fun p hp => ?_, N.room, N.few⟩, sub, rest⟩
  obtain ⟨⟨as, r⟩, h2, h3⟩ := els p (sub p hp)
  exact ⟨⟨as, Reads.keeps kp r⟩, h2, h3⟩
end
section
variable {X : Cx}
end
end DL

set_option Elab.async false
set_option linter.all false
set_option maxRecDepth 100000
set_option maxHeartbeats 4000000
set_option autoImplicit false
namespace DL
open PySem PySem.Spec PyProof.Rows L2
/-! ### sum(lists, start) -/
section
variable {prog : Program} {w : World} {A : Around} {R : Result → Shared → Prop} {I : Addr} {fp wr : List Addr} {G : Array GenState → Array GenState → Prop} {n : Nat} {P : Nat → Value → Prop} {St : Nat → Shared → Prop}
end
section
variable {prog : Program} {w : World} {A : Around} {E : Value → Shared → Prop} {s : Shared}
end
end DL

set_option Elab.async false
set_option linter.all false
set_option maxRecDepth 100000
set_option maxHeartbeats 4000000
set_option autoImplicit false
namespace DL
open PySem PySem.Spec PyProof.Rows L2
section
variable {X : Cx} {pins : List (Addr × Obj)} {σ : L2.St} {H : Hp} {s : Shared}
end
section
variable {X : Cx}
end
end DL

set_option Elab.async false
set_option linter.all false
set_option maxRecDepth 100000
set_option maxHeartbeats 4000000
set_option autoImplicit false
namespace DL
open PySem PySem.Spec PyProof.Rows L2
/-! ### len(set(..)), read by types -/
mutual
def kyD : D → Bool
  | .int _ => true | .str _ => true | .bl _ => true
  | .tup ds => kyDs ds
  | _ => false
def kyDs : List D → Bool
  | [] => true
  | d :: ds => kyD d && kyDs ds
end
mutual
theorem kyD_ok : ∀ {d : D}, kyD d = true → ∃ a, toPy d = some a ∧ hasK a = true ∧ a.depth = depD d
  | .int i, _ => ⟨.int i, by simp only [toPy], by simp [hasK], by simp [PyData.depth, depD]⟩
  | .str i, _ => ⟨.str i, by simp only [toPy], by simp [hasK], by simp [PyData.depth, depD]⟩
  | .bl i, _ => ⟨.bool i, by simp only [toPy], by simp [hasK], by simp [PyData.depth, depD]⟩
  | .tup ds, h => by
    simp only [kyD] at h
    obtain ⟨as, e, h1, h2⟩ := kyDs_ok h
    exact ⟨.tuple as, by simp only [toPy, e]; rfl, by simp only [hasK]; exact h1, by simp only [PyData.depth, depD, h2]⟩
  | .non, h => by simp [kyD] at h
  | .lst _, h => by simp [kyD] at h
  | .nt _, h => by simp [kyD] at h
  | .ty _, h => by simp [kyD] at h
  | .ref _, h => by simp [kyD] at h
  | .any _, h => by simp [kyD] at h
theorem kyDs_ok : ∀ {ds : List D}, kyDs ds = true → ∃ as, toPys ds = some as ∧ hasKs as = true ∧ PyData.depthAll as = depDs ds
  | [], _ => ⟨[], by simp only [toPys], rfl, by simp [PyData.depthAll, depDs]⟩
  | d :: ds, h => by
    simp only [kyDs, Bool.and_eq_true] at h
    obtain ⟨a, e, h1, h2⟩ := kyD_ok h.1
    obtain ⟨as, e', h1', h2'⟩ := kyDs_ok h.2
    exact ⟨a :: as, by simp only [toPys, e, e'], by simp only [hasKs, h1, h1']; rfl, by simp only [PyData.depthAll, depDs, h2, h2']⟩
end
end DL

set_option Elab.async false
set_option linter.all false
set_option maxRecDepth 100000
set_option maxHeartbeats 4000000
set_option autoImplicit false
namespace DL
open PySem PySem.Spec PyProof.Rows L2
/-! ### dicts whose keys are mixed, nested data: read and written -/
section
variable {prog : Program} {w : World} {A : Around} {E : Value → Shared → Prop} {s : Shared} {d : Addr} {o : Obj} {es : Array DictEntry} {ep : Nat} {ks : List PyData} {key v : Value} {k : PyData} {as : List Addr}
theorem get_data {Q : Option Value → Shared → Prop} (ho : s.heap.get? d = some o) (hd : o.data = .dict es ep) (X : Ents w s.heap ks es) (rk : Reads s.heap key k as) (hk : hasK k = true) (hkd : k.depth ≤ 8) (hu : A.units + 10 < cLine)
    (q : Q ((ks.findIdx? fun z => PyData.eqv z k).bind fun i => es[i]?.map (·.val)) { s with toks := s.toks + drwK k }) : wpAny (model prog w) A (dictGet d key) Q E s := by
  unfold dictGet
  try with_reducible refine wpAny_holding ?_
  refine wpAny_bind (hash_data k rk hk (by omega) (wpAny_bind (find_data (s := { s with toks := s.toks + drwK k }) ho hd X rk hk hkd hu ?_)))
  cases e : ks.findIdx? fun z => PyData.eqv z k with
  | none => rw [e] at q; exact wpAny_pure q
  | some i =>
    rw [e] at q
    refine wpAny_bind (wpAny_dictEntries (s := { s with toks := s.toks + drwK k }) ho hd ?_)
    exact wpAny_pure q
theorem put_data {Q : Unit → Shared → Prop} (ho : s.heap.get? d = some o) (hd : o.data = .dict es ep) (X : Ents w s.heap ks es) (rk : Reads s.heap key k as) (hk : hasK k = true) (hkd : k.depth ≤ 8) (hu : A.units + 10 < cLine) (hz : es.size ≤ sizeLine)
    (q1 : (ks.findIdx? fun z => PyData.eqv z k) = none → Q () { s with heap := s.heap.update d (Obj.mapDictKeys (·.push ⟨hshK w k, key, v⟩)), toks := s.toks + drwK k })
    (q2 : ∀ i, (ks.findIdx? fun z => PyData.eqv z k) = some i → Q () { s with heap := s.heap.update d (Obj.mapDict (·.modify i fun e => { e with val := v })), toks := s.toks + drwK k }) : wpAny (model prog w) A (dictSet d key v) Q E s := by
  unfold dictSet
  try with_reducible refine wpAny_holding ?_
  refine wpAny_bind (hash_data k rk hk (by omega) ?_)
  unfold dictSetHashed
  try with_reducible refine wpAny_holding ?_
  refine wpAny_bind (find_data (s := { s with toks := s.toks + drwK k }) ho hd X rk hk hkd hu ?_)
  cases e : ks.findIdx? fun z => PyData.eqv z k with
  | none => exact wpAny_bind (wpAny_rule (wpAny_updateDictKeys (hz := hz) (s := { s with toks := s.toks + drwK k }) ho hd (q1 e)))
  | some i => exact wpAny_bind (wpAny_rule (wpAny_bind (wpAny_updateDict (s := { s with toks := s.toks + drwK k }) ho hd (wpAny_point (q2 i e)))))
theorem in_data {Q : Bool → Shared → Prop} (ho : s.heap.get? d = some o) (hex : o.ExactDict) (hd : o.data = .dict es ep) (X : Ents w s.heap ks es) (rk : Reads s.heap key k as) (hk : hasK k = true) (hkd : k.depth ≤ 8) (hu : A.units + 11 < cLine) (hs : (d == sysModules) = false)
    (q : Q (ks.findIdx? fun z => PyData.eqv z k).isSome { s with toks := s.toks + drwK k }) : wpAny (model prog w) A (contains (.ref d) key) Q E s := by
  have ty : s.TypeIs (.ref d) "dict" := ⟨o, ho, hex.1⟩
  unfold contains
  try with_reducible refine wpAny_holding ?_
  refine wpAny_bind (wpAny_specialOf ty slot_dict_contains.lookup ?_)
  show wpAny _ _ (if (some (Value.builtin "dict.__contains__") == some Value.none) = true then _ else _) _ E s
  rw [if_neg (by rw [beq_builtin_none]; exact Bool.false_ne_true)]
  refine wpAny_bind (wpAny_callSpecialUnlessNone?_slot (name := Str.ofString "__contains__") ty slot_dict_contains (wpAny_call_entry slot_dict_contains ty entry_dict_contains ?_ (args_dict_contains _ _)))
  show wpAny _ _ (dictGet d key >>= _) _ _ s
  refine wpAny_bind (get_data ho hd X rk hk hkd (by show A.units + 1 + 10 < cLine; omega) ?_)
  cases hf : ks.findIdx? fun z => PyData.eqv z k with
  | some i =>
    rw [hf] at q
    have hi : i < ks.length := (List.findIdx?_eq_some_iff_getElem.mp hf).1
    have hi2 : i < es.size := by rw [X.len]; exact hi
    simp only [Option.bind_some, Array.getElem?_eq_getElem hi2, Option.map_some]
    show wpAny _ _ (ret (.bool true)) _ _ _
    exact wpAny_pure ⟨_, rfl, wpAny_truthy_bool q⟩
  | none =>
    rw [hf] at q
    show wpAny _ _ (Builtin.Dict.pendingKey? d key >>= _) _ _ _
    exact wpAny_bind (wpAny_pendingKey_other hs (wpAny_pure ⟨_, rfl, wpAny_truthy_bool q⟩))
theorem st_data {Q : Unit → Shared → Prop} (ho : s.heap.get? d = some o) (hex : o.ExactDict) (hd : o.data = .dict es ep) (X : Ents w s.heap ks es) (rk : Reads s.heap key k as) (hk : hasK k = true) (hkd : k.depth ≤ 8) (hu : A.units + 11 < cLine) (hz : es.size ≤ sizeLine)
    (q1 : (ks.findIdx? fun z => PyData.eqv z k) = none → Q () { s with heap := s.heap.update d (Obj.mapDictKeys (·.push ⟨hshK w k, key, v⟩)), toks := s.toks + drwK k })
    (q2 : ∀ i, (ks.findIdx? fun z => PyData.eqv z k) = some i → Q () { s with heap := s.heap.update d (Obj.mapDict (·.modify i fun e => { e with val := v })), toks := s.toks + drwK k }) : wpAny (model prog w) A (setItem (.ref d) key v) Q E s := by
  have ty : s.TypeIs (.ref d) "dict" := ⟨o, ho, hex.1⟩
  unfold setItem
  try with_reducible refine wpAny_holding ?_
  refine wpAny_bind (wpAny_sequenceKey ty (by decide) ?_)
  refine wpAny_bind (wpAny_callSpecial?_slot (name := Str.ofString "__setitem__") ty slot_dict_setitem (wpAny_call_entry slot_dict_setitem ty entry_dict_setitem ?_ (args_dict_setitem _ _ _)))
  show wpAny _ _ (Builtin.Dict.notOrdered "__setitem__" ⟨[.ref d, key, v], []⟩ >>= _) _ _ s
  refine wpAny_bind (wpAny_notOrdered_dict ty ?_)
  show wpAny _ _ (dictSet d key v >>= _) _ _ s
  exact wpAny_bind (put_data ho hd X rk hk hkd (by show A.units + 1 + 10 < cLine; omega) hz (fun e => wpAny_pure ⟨.none, rfl, wpAny_pure (q1 e)⟩) fun i e => wpAny_pure ⟨.none, rfl, wpAny_pure (q2 i e)⟩)
end
/-! ### by data -/
def hshD (w : World) (d : D) : Int := hshK w ((toPy d).getD .none)
def KyOk (kvs : List (D × D)) : Prop := (∀ k ∈ kvs.map (·.1), kyD k = true ∧ depD k ≤ 8) ∧ (kvs.map (·.1)).Pairwise fun p q => eqD p q = false
abbrev GO.dN (w : World) (kvs : List (D × D)) : GO := .dX KyOk (hshD w) kvs
def ixX (kvs : List (D × D)) (k : D) : Option Nat := kvs.findIdx? fun p => eqD p.1 k
def putX (kvs : List (D × D)) (k v : D) : List (D × D) := match ixX kvs k with
  | some i => kvs.modify i fun p => (p.1, v)
  | none => kvs ++ [(k, v)]
theorem Paired.get {α β : Type} {F : α → β → Prop} : ∀ {xs : List α} {ys : List β} {i : Nat} {a : α}, Paired F xs ys → xs[i]? = some a → ∃ b, ys[i]? = some b ∧ F a b
  | _, _, _, _, .nil, e => by simp at e
  | _, _, 0, _, .cons r t, e => by simp at e; subst e; exact ⟨_, rfl, r⟩
  | _, _, i + 1, a, .cons r t, e => by
    obtain ⟨b, h1, h2⟩ := Paired.get t (i := i) (a := a) (by simpa using e)
    exact ⟨b, by simpa using h1, h2⟩
theorem Paired.app {α β : Type} {F : α → β → Prop} : ∀ {xs xs' : List α} {ys ys' : List β}, Paired F xs ys → Paired F xs' ys' → Paired F (xs ++ xs') (ys ++ ys')
  | _, _, _, _, .nil, q => q
  | _, _, _, _, .cons r t, q => .cons r (Paired.app t q)
theorem Paired.modify {α β : Type} {F : α → β → Prop} {f : α → α} {g : β → β} (h : ∀ a b, F a b → F (f a) (g b)) : ∀ {xs : List α} {ys : List β} (i : Nat), Paired F xs ys → Paired F (xs.modify i f) (ys.modify i g)
  | _, _, _, .nil => by simp; exact .nil
  | _, _, 0, .cons r t => by simp; exact .cons (h _ _ r) t
  | _, _, i + 1, .cons r t => by simp; exact .cons r (Paired.modify h i t)
end DL

set_option Elab.async false
set_option linter.all false
set_option maxRecDepth 100000
set_option maxHeartbeats 4000000
set_option autoImplicit false
namespace DL
open PySem PySem.Spec PyProof.Rows L2
def pyN (d : D) : PyData := (toPy d).getD .none
theorem pyN_ok {d : D} (h : kyD d = true) : toPy d = some (pyN d) ∧ hasK (pyN d) = true ∧ (pyN d).depth = depD d := by
  obtain ⟨a, e, h1, h2⟩ := kyD_ok h
  unfold pyN
  rw [e]
  exact ⟨rfl, h1, h2⟩
theorem keys_modify (kvs : List (D × D)) (v : D) : ∀ i : Nat, (kvs.modify i fun p => (p.1, v)).map (·.1) = kvs.map (·.1) := by
  induction kvs with
  | nil => intro i; simp
  | cons p kvs ih =>
    intro i
    cases i with
    | zero => simp
    | succ i => simp only [List.modify_succ_cons, List.map_cons, ih]
theorem KyOk.put {kvs : List (D × D)} (ok : KyOk kvs) {k v : D} (hk : kyD k = true) (hd : depD k ≤ 8) : KyOk (putX kvs k v) := by
  unfold putX
  split
  · unfold KyOk
    rw [keys_modify]
    exact ok
  · rename_i e
    unfold KyOk
    rw [List.map_append, List.map_singleton]
    refine ⟨fun z hz => ?_, ?_⟩
    · rcases List.mem_append.mp hz with hz | hz
      · exact ok.1 z hz
      · rw [List.mem_singleton.mp hz]; exact ⟨hk, hd⟩
    · rw [List.pairwise_append]
      refine ⟨ok.2, List.pairwise_singleton _ _, fun z hz y hy => ?_⟩
      rw [List.mem_singleton.mp hy]
      obtain ⟨p, hp, rfl⟩ := List.mem_map.mp hz
      unfold ixX at e
      rw [List.findIdx?_eq_none_iff] at e
      exact e p hp
section
variable {X : Cx} {pins : List (Addr × Obj)} {σ : L2.St} {H : Hp} {s : Shared} {N : Ns} {a : Addr} {kvs : List (D × D)} {kvs' : List (Int × V × V)}
theorem dxo_ok {P : Program} {w : World} {H : Hp} {h : Heap} (x : DxIs h a kvs') : ObjOk P w H h a (DxO a kvs') := by
  refine ⟨x, ?_, fun h1 h2 q st => ?_⟩
  · obtain ⟨_, _, o, _, _, ho, _⟩ := x
    exact ⟨o, ho⟩
  · obtain ⟨z1, z2, o, es, ep, ho, r⟩ := q
    exact ⟨z1, z2, o, es, ep, st o ho, r⟩
theorem dx_ents (I : Inv X pins σ H s) (hH : H a = some (DxO a kvs')) (r : RXV X.K H N (hshD X.w) kvs kvs') (ok : KyOk kvs) :
    kvs'.length ≤ sizeLine ∧ kvs.length = kvs'.length ∧ (a == sysModules) = false ∧ ∃ o es ep, s.heap.get? a = some o ∧ o.ExactDict ∧ o.data = .dict es ep ∧ es.size = kvs'.length ∧ Ents X.w s.heap (kvs.map fun p => pyN p.1) es ∧ Paired (fun (p : Int × V × V) (e : DictEntry) => e.hash = p.1 ∧ RelV p.2.1 e.key ∧ RelV p.2.2 e.val) kvs' es.toList ∧ ep = kvs'.length := by
  have hx : ObjOk X.prog X.w H s.heap a (DxO a kvs') := I.hok a _ hH
  obtain ⟨z, hs, o, es, ep, ho, hex, hd, hep, pr⟩ := hx.1
  have l1 : kvs.length = kvs'.length := Paired.length r
  have l2 : kvs'.length = es.toList.length := Paired.length pr
  have l3 : es.size = kvs'.length := by rw [l2]; simp
  have kk : ∀ p ∈ kvs, kyD p.1 = true ∧ depD p.1 ≤ 8 := fun p hp => ok.1 _ (List.mem_map.mpr ⟨p, hp, rfl⟩)
  refine ⟨z, l1, hs, o, es, ep, ho, hex, hd, l3, ⟨?_, ?_, ?_, ?_⟩, pr, hep⟩
  · rw [List.length_map]; omega
  · intro i e k h1 h2
    rw [List.getElem?_map] at h2
    obtain ⟨p, hp, rfl⟩ := Option.map_eq_some_iff.mp h2
    obtain ⟨q, hq, q1, q2, q3⟩ := Paired.get r hp
    obtain ⟨e', he', e1, e2, e3⟩ := Paired.get pr hq
    rw [Array.getElem?_toList, h1] at he'
    cases he'
    obtain ⟨k1, k2, k3⟩ := pyN_ok (kk p (List.mem_of_getElem? hp)).1
    exact ⟨by rw [e1, q1]; rfl, Dp.reads I _ _ _ (toPy_ok q2 k1) e2⟩
  · intro k hk
    obtain ⟨p, hp, rfl⟩ := List.mem_map.mp hk
    obtain ⟨k1, k2, k3⟩ := pyN_ok (kk p hp).1
    exact ⟨k2, by rw [k3]; exact (kk p hp).2⟩
  · intro i j x y hij hx hy
    rw [List.getElem?_map] at hx hy
    obtain ⟨p, hp, rfl⟩ := Option.map_eq_some_iff.mp hx
    obtain ⟨q, hq, rfl⟩ := Option.map_eq_some_iff.mp hy
    obtain ⟨i1, i2⟩ := List.getElem?_eq_some_iff.mp hp
    obtain ⟨j1, j2⟩ := List.getElem?_eq_some_iff.mp hq
    have := List.pairwise_iff_getElem.mp ok.2 i j (by rw [List.length_map]; exact i1) (by rw [List.length_map]; exact j1) hij
    rw [List.getElem_map, List.getElem_map, i2, j2] at this
    rw [eqv_eqD (pyN_ok (kk p (List.mem_of_getElem? hp)).1).1 (pyN_ok (kk q (List.mem_of_getElem? hq)).1).1]
    exact this
theorem ix_same (ok : KyOk kvs) {k : D} (hk : kyD k = true) : ((kvs.map fun p => pyN p.1).findIdx? fun z => PyData.eqv z (pyN k)) = ixX kvs k := by
  refine find_pair (by simp) fun i x p h1 h2 => ?_
  rw [List.getElem?_map, h2] at h1
  cases h1
  exact eqv_eqD (pyN_ok (ok.1 _ (List.mem_map.mpr ⟨p, List.mem_of_getElem? h2, rfl⟩)).1).1 (pyN_ok hk).1
/-- k in d -/
def dInX (w : World) (b : Bool) : DR2 := fun y x G R => ∃ a kvs, x = .ref a ∧ G a = some (GO.dN w kvs) ∧ kyD y = true ∧ depD y ≤ 8 ∧ R (.bl ((ixX kvs y).isSome == b)) G
theorem cont_data {K' : Bool → Hp → Prop} {G : Gp} {y : D} {yv : V} {u : Value} (hu : X.A.units + 11 < cLine) (I : Inv X pins σ H s) (rg : RelG X.K H N G) (hG : G a = some (GO.dN X.w kvs)) (r2 : RD X.K H N y yv) (ry : RelV yv u) (hk : kyD y = true) (hd : depD y ≤ 8) (q : K' (ixX kvs y).isSome H) :
    wpAny (model X.prog X.w) X.A (contains (.ref a) u) (fun b s' => Inv X pins σ H s' ∧ K' b H) X.xe s := by
  obtain ⟨hN, kvs', hH, rr, ok⟩ := rg a _ hG
  obtain ⟨z1, z2, z3, o, es, ep, ho, hex, hdt, z4, E, pr, hep⟩ := dx_ents I hH rr ok
  obtain ⟨k1, k2, k3⟩ := pyN_ok hk
  obtain ⟨as, rk⟩ := Dp.reads I _ _ _ (toPy_ok r2 k1) ry
  refine in_data ho hex hdt E rk k2 (by rw [k3]; exact hd) hu z3 ?_
  rw [ix_same ok hk]
  exact ⟨I.tok _, q⟩
theorem od_inX (hu : X.A.units + 11 < cLine) : OpD X (compareOp .In) (dInX X.w true) := by
  intro pins s σ H x y v u Q I rx ry h
  obtain ⟨c, d, G, N, R, r1, r2, rg, ⟨a, kvs, rfl, hG, hk, hd, hR⟩, q⟩ := h
  obtain rfl := r2.of_ref
  obtain rfl : u = Value.ref a := ry
  show wpAny (model X.prog X.w) X.A (do return Value.bool (← contains (.ref a) v)) (EP X pins σ Q) X.xe s
  refine wpAny_bind (wpAny_mono (cont_data (K' := fun b _ => b = (ixX kvs c).isSome) hu I rg hG r1 rx hk hd rfl) (fun b s' h => ?_) fun _ _ e => e)
  obtain ⟨I2, rfl⟩ := h
  exact wpAny_pure ⟨.bl (ixX kvs c).isSome, H, I2, rfl, q.at rg (by simpa using hR) (RD.bl _)⟩
/-- d[k] = v -/
def dSetX (w : World) : DSet := fun o i v G R => ∃ a kvs, o = .ref a ∧ G a = some (GO.dN w kvs) ∧ kyD i = true ∧ depD i ≤ 8 ∧ kvs.length < sizeLine ∧ R (gup G a (GO.dN w (putX kvs i v)))
theorem sd_setX (hu : X.A.units + 11 < cLine) : SetD X (dSetX X.w) := by
  intro pins s σ H o i v ov iv u Q I ro ri rv h
  obtain ⟨c, d, e, G, N, R, r1, r2, r3, rg, ⟨a, kvs, rfl, hG, hk, hd, hl, hR⟩, q⟩ := h
  obtain rfl := r1.of_ref
  obtain rfl : ov = Value.ref a := ro
  obtain ⟨hN, kvs', hH, rr, ok⟩ := rg a _ hG
  obtain ⟨z1, z2, z3, ob, es, ep, ho, hex, hdt, z4, E, pr, hep⟩ := dx_ents I hH rr ok
  obtain ⟨k1, k2, k3⟩ := pyN_ok hk
  obtain ⟨as, rk⟩ := Dp.reads I _ _ _ (toPy_ok r2 k1) ri
  have fin : ∀ (nkv : List (Int × V × V)) (h' : Heap) (tk : Nat), RXV X.K H N (hshD X.w) (putX kvs d e) nkv → DxIs h' a nkv → Heap.SameBut a s.heap h' → ∃ H', Inv X pins σ H' { s with heap := h', toks := tk } ∧ Q H' := fun nkv h' tk r dx sb => by
    have he : ∃ z, h'.get? a = some z := by obtain ⟨_, _, z, _, _, hz, _⟩ := dx; exact ⟨z, hz⟩
    refine ⟨upd H a (DxO a nkv), I.write (x := a) (e := a) (by rw [hH]; exact True.intro) (.inl rfl) (fun b o hb z => (sb.2 b hb).trans z) he (dxo_ok dx), ?_⟩
    exact q _ N _ hR (Stp.writeC (u := DxO a nkv) rg hG hH chg_dx rfl ⟨nkv, upd_same, r.le (Kp.writeC (u := DxO a nkv) hN hH chg_dx rfl), ok.put hk hd⟩)
  refine st_data ho hex hdt E rk k2 (by rw [k3]; exact hd) hu (by omega) (fun en => ?_) fun i' ei => ?_
  · rw [ix_same ok hk] at en
    refine fin (kvs' ++ [(hshD X.w d, i, v)]) _ _ ?_ ⟨by simp; omega, z3, _, _, ep + 1, Heap.get?_update_self _ ho (Obj.isFreed_of_dict (Obj.data_mapDictKeys hdt _)), hex.mapDictKeys _, Obj.data_mapDictKeys hdt _, by rw [hep, List.length_append]; rfl, ?_⟩ (Heap.SameBut.update ..)
    · unfold putX
      rw [en]
      exact Paired.app rr (.cons ⟨rfl, r2, r3⟩ .nil)
    · rw [Array.toList_push]
      exact Paired.app pr (.cons ⟨rfl, ri, rv⟩ .nil)
  · rw [ix_same ok hk] at ei
    refine fin (kvs'.modify i' fun p => (p.1, p.2.1, v)) _ _ ?_ ⟨by simp; exact z1, z3, _, _, ep, Heap.get?_update_self _ ho (Obj.isFreed_of_dict (Obj.data_mapDict hdt _)), hex.mapDict _, Obj.data_mapDict hdt _, by rw [hep, List.length_modify], ?_⟩ (Heap.SameBut.update ..)
    · unfold putX
      rw [ei]
      exact Paired.modify (fun p p' z => ⟨z.1, z.2.1, r3⟩) i' rr
    · rw [Array.toList_modify]
      exact Paired.modify (fun p p' z => ⟨z.1, z.2.1, rv⟩) i' pr
/-- {} -/
def dNewX (w : World) : DE := fun _ G R => ∀ p, G p = none → R (.ref p) (gup G p (GO.dN w []))
theorem qe_newX {pos : Pos} : QE X (.Dict [] [] pos) (dNewX X.w) := ⟨fun pins s τ H Q I h => by
  obtain ⟨σ, G, N, R, hs, rg, ht, q⟩ := h
  have hf : H s.heap.objs.size = none := I.hok.fresh (Nat.le_refl _)
  have dx : DxIs (s.heap.push { cls := .type "dict", data := .dict #[] }) s.heap.objs.size [] := ⟨Nat.zero_le _, beq_eq_false_iff_ne.mpr (Ne.symm (Nat.ne_of_lt I.big)), _, #[], 0, Heap.get?_push_size _ rfl, ⟨rfl, rfl, rfl⟩, rfl, rfl, .nil⟩
  refine wpAny_Dict_empty ⟨.ref s.heap.objs.size, _, I.laid (a := s.heap.objs.size) (o := DxO s.heap.objs.size []) (t' := s.toks) (fun _ _ q => Heap.get?_push_of_some _ q) (Nat.le_refl _) (dxo_ok dx), rfl, ?_⟩
  exact q _ _ _ _ _ (ht _ (rg.free hf)) (Stp.new (u := DxO s.heap.objs.size []) rg hf ⟨[], upd_same, Paired.nil, fun p hp => (by cases hp), List.Pairwise.nil⟩) (RD.ref _)⟩
end
end DL

set_option Elab.async false
set_option linter.all false
set_option maxRecDepth 100000
set_option maxHeartbeats 4000000
set_option autoImplicit false
namespace DL
open PySem PySem.Spec PyProof.Rows L2
/-! ### a dict display with text keys, asked at once -/
theorem rm1 {n : Nat} (h : n + 100 < cLine) : n + 1 < cLine := by omega
theorem rm11 {n : Nat} (h : n + 100 < cLine) : n + 11 < cLine := by omega
def trsOf (K : PySem.W.Frag) (l : List (Str × DE)) : List (TE × TE) := l.map fun p => (up K (dC (.str p.1)), up K p.2)
def dVals : List (Str × DE) → DA
  | [] => dNil
  | p :: l => dCons p.2 (dVals l)
theorem tPairs_of {K : PySem.W.Frag} {τ : L2.St} : ∀ (l : List (Str × DE)) {H : Hp} {N : Ns} {G : Gp} {σ : Sd} {R : List D → Gp → Prop} {Q : List (V × V) → Hp → Prop}, RSt K H N σ τ → RelG K H N G → dVals l σ G R →
    (∀ ds G' N' vs H', R ds G' → Stp K H N G H' N' G' → RDs K H' N' ds vs → Q ((l.map fun p => V.str p.1).zip vs) H') → tPairs (trsOf K l) τ H Q
  | [], H, N, G, σ, R, Q, hs, hg, ht, q => q [] G N [] H ht (Stp.refl hg) RDs.nil
  | p :: l, H, N, G, σ, R, Q, hs, hg, ht, q => by
    refine ⟨σ, G, N, fun d G' => d = .str p.1 ∧ G' = G, hs, hg, ⟨rfl, rfl⟩, fun d G' N' v H' hd s1 rd => ?_⟩
    obtain ⟨rfl, rfl⟩ := hd
    obtain rfl := rd.of_str
    refine ⟨σ, G', N', _, hs.le s1.kp, s1.rel, ht, fun d G2 N2 v2 H2 h2 s2 r2 => ?_⟩
    refine tPairs_of l ((hs.le s1.kp).le s2.kp) s2.rel h2 fun ds G3 N3 vs H3 h3 s3 r3 => ?_
    exact q (d :: ds) G3 N3 (v2 :: vs) H3 h3 (s1.trans (s2.trans s3)) (RDs.cons (r2.le s3.kp) r3)
theorem mergeK_new : ∀ (kvs acc : List (Key × V)), ((acc ++ kvs).map (·.1)).Nodup → mergeK acc kvs = acc ++ kvs
  | [], acc, _ => by simp [mergeK]
  | p :: kvs, acc, h => by
    have h1 : putK acc p.1 p.2 = acc ++ [p] := by
      unfold putK
      rw [if_neg]
      intro c
      obtain ⟨z, hz, e⟩ := List.any_eq_true.mp c
      have e : z.1 = p.1 := of_decide_eq_true e
      rw [List.map_append, List.nodup_append] at h
      exact h.2.2 z.1 (List.mem_map.mpr ⟨z, hz, rfl⟩) p.1 (by simp) e
    show mergeK (putK acc p.1 p.2) kvs = _
    rw [h1, mergeK_new kvs (acc ++ [p]) (by simpa using h)]
    simp
section
variable {X : Cx} {pos : Pos} {keys : List (Option Expr)} {values : List Expr}
/-- a new object that is not known, of which it is not said that it never changes -/
theorem Stp.newN {K : PySem.W.Frag} {H : Hp} {N : Ns} {G : Gp} {p : Addr} {u : HO} (r : RelG K H N G) (h : H p = none) : Stp K H N G (upd H p u) (nadd N p) G := by
  refine ⟨Kp.new h, fun q x e n => ⟨by rw [upd_ne (ne_of_none e h)]; exact e, n, .inr⟩, fun a o' e => ?_⟩
  obtain ⟨x, hx, _⟩ := (r a o' e).2.here
  exact ⟨.inr (r a o' e).1, (r a o' e).2.le (Kp.new h) (upd_ne (ne_of_none hx h))⟩
theorem zip_split : ∀ (l : List (Str × DE)) (vs : List V), (l.map fun p => V.str p.1).zip vs = (((l.map fun q => (Sum.inr q.1 : Key)).zip vs).map fun kv => (kV kv.1, kv.2))
  | [], _ => rfl
  | p :: l, [] => rfl
  | p :: l, v :: vs => by simp only [List.map_cons, List.zip_cons_cons, zip_split l vs]; rfl
theorem zip_nodup : ∀ (l : List (Str × DE)) (vs : List V), (l.map (·.1)).Nodup → (((l.map fun q => (Sum.inr q.1 : Key)).zip vs).map (·.1)).Nodup := fun l vs h => by
  have h2 : (l.map fun q => (Sum.inr q.1 : Key)).Nodup := by
    rw [show (l.map fun q => (Sum.inr q.1 : Key)) = (l.map (·.1)).map Sum.inr by rw [List.map_map]; rfl]
    exact List.Pairwise.map _ (fun a b h e => h (by cases e; rfl)) h
  refine List.Nodup.sublist ?_ h2
  clear h h2
  generalize l.map (fun q => (Sum.inr q.1 : Key)) = ks
  induction ks generalizing vs with
  | nil => simp
  | cons k ks ih =>
    cases vs with
    | nil => simp
    | cons v vs => simpa using ih vs
end
end DL

set_option Elab.async false
set_option linter.all false
set_option maxRecDepth 100000
set_option maxHeartbeats 4000000
set_option autoImplicit false
namespace DL
open PySem PySem.Spec PyProof.Rows L2
/-! ### a, b, c = a list -/
end DL

set_option Elab.async false
set_option linter.all false
set_option maxRecDepth 100000
set_option maxHeartbeats 4000000
set_option autoImplicit false
namespace DL
open PySem PySem.Spec PyProof.Rows L2
/-! ### dicts of typed keys: laws -/
section
variable {α : Type} [DecidableEq α]
variable {d : α → D} (heq : ∀ a b, eqD (d a) (d b) = decide (a = b))
include heq
variable {w : World} {G : Gp} {a : Addr} {l : List (α × Int)} {k : α}
end
/-! ### bits -/
end DL

set_option Elab.async false
set_option linter.all false
set_option maxRecDepth 100000
set_option maxHeartbeats 4000000
set_option autoImplicit false
namespace DL
open PySem PySem.Spec PyProof.Rows L2
/-! ### enumerate of a tuple -/
section
variable {prog : Program} {w : World} {A : Around} {E : Value → Shared → Prop} {s : Shared}
end
section
variable {X : Cx}
theorem od_inXW {w : World} (hw : X.w = w) (hu : X.A.units + 11 < cLine) : OpD X (compareOp .In) (dInX w true) := by subst hw; exact od_inX hu
theorem sd_setW {w : World} (hw : X.w = w) (hu : X.A.units + 11 < cLine) : SetD X (dSetX w) := by subst hw; exact sd_setX hu
theorem qe_newW {w : World} {pos : Pos} (hw : X.w = w) : QE X (.Dict [] [] pos) (dNewX w) := by subst hw; exact qe_newX
end
end DL

set_option Elab.async false
set_option linter.all false
set_option maxRecDepth 100000
set_option maxHeartbeats 4000000
set_option autoImplicit false
namespace DL
open PySem PySem.Spec PyProof.Rows L2
/-! ### a list times an int -/
theorem RDs.rep {K : PySem.W.Frag} {H : Hp} {N : Ns} {ds : List D} {vs : List V} (r : RDs K H N ds vs) : ∀ n : Nat, RDs K H N (List.replicate n ds).flatten (List.replicate n vs).flatten
  | 0 => by simpa using RDs.nil
  | n + 1 => by
    rw [List.replicate_succ, List.replicate_succ, List.flatten_cons, List.flatten_cons]
    exact RDs.append r (RDs.rep r n)
variable {X : Cx}
def dRep (mk : Bool) : DR2 := fun x y G R => match x, y with
  | .ref a, .int k => (match G a with | some (.lst ds) => 0 ≤ k ∧ k < 1000 ∧ ds.length * k.toNat ≤ sizeLine ∧ newL mk (List.replicate k.toNat ds).flatten G R | _ => False)
  | _, _ => False
theorem od_rep (mk : Bool) : OpD X (binaryOp .Mult) (dRep mk) := opr_mono op_rep fun x y H Q h => by
  obtain ⟨c, d, G, N, R, r1, r2, rg, h, q⟩ := h
  unfold dRep at h
  split at h
  · rename_i a k
    obtain rfl := r1.of_ref
    obtain rfl := r2.of_int
    split at h
    · rename_i ds ea
      obtain ⟨h1, h2, h3, h4⟩ := h
      obtain ⟨_, vs, hv, r⟩ := rg a _ ea
      have hl := r.length
      exact ⟨a, k, vs, rfl, rfl, hv, by omega, by omega, by rw [← hl]; exact h3, fun p np => newL_ok rg (r.rep k.toNat) h4 q np⟩
    · exact h.elim
  · exact h.elim
theorem rep_go {mk : Bool} {a : Addr} {k : Int} {ds : List D} {G : Gp} {R : DK} (e : G a = some (.lst ds)) (h1 : 0 ≤ k) (h2 : k < 1000) (h3 : ds.length * k.toNat ≤ sizeLine) (q : newL mk (List.replicate k.toNat ds).flatten G R) : dRep mk (.ref a) (.int k) G R := by
  unfold dRep
  simp only [e]
  exact ⟨h1, h2, h3, q⟩
end DL

set_option Elab.async false
set_option linter.all false
set_option maxRecDepth 100000
set_option maxHeartbeats 4000000
set_option autoImplicit false
namespace DL
open PySem PySem.Spec PyProof.Rows L2
/-! ### >= of data -/
variable {X : Cx}
end DL

set_option Elab.async false
set_option linter.all false
set_option maxRecDepth 100000
set_option maxHeartbeats 4000000
set_option autoImplicit false
namespace DL
open PySem PySem.Spec PyProof.Rows L2
/-! ### split, int of a text, statements that are never reached -/
variable {X : Cx}
/-! ### texts taken apart -/
end DL

set_option Elab.async false
set_option linter.all false
set_option maxRecDepth 100000
set_option maxHeartbeats 4000000
set_option autoImplicit false
namespace DL
open PySem PySem.Spec PyProof.Rows L2
/-! ### a list's slice with a step -/
theorem RDs.pick {K : PySem.W.Frag} {H : Hp} {N : Ns} {ds : List D} {vs : List V} (r : RDs K H N ds vs) : ∀ is : List Nat, RDs K H N (is.filterMap (ds[·]?)) (is.filterMap (vs[·]?))
  | [] => RDs.nil
  | i :: is => by
    rw [List.filterMap_cons, List.filterMap_cons]
    have ih := RDs.pick r is
    cases e : ds[i]? with
    | some d =>
      obtain ⟨v, hv, rv⟩ := r.get e
      rw [hv]
      exact RDs.cons rv ih
    | none =>
      have : vs[i]? = none := by rw [List.getElem?_eq_none_iff] at e ⊢; rw [← r.length]; exact e
      rw [this]
      exact ih
section
variable {X : Cx} {e : Expr} {lo hi st : Option Expr} {p3 pos : Pos}
/-- xs.extend(ys), both known -/
def dExtend : D → List D → Gp → DK → Prop := fun x xs G R => match x, xs with
  | .ref a, [.ref b] => (match G a, G b with | some (.lst ds), some (.lst es) => ds.length + es.length ≤ sizeLine ∧ R .non (gup G a (.lst (ds ++ es))) | _, _ => False)
  | _, _ => False
theorem md_extend : MtD X "list.extend" dExtend := md_of (rv := rExtend) (fun pins s σ H x xs v us Q I rx rxs q => mt_extend pins s σ H x xs v us Q I rx rxs q) fun c cs G N R x xs H Q r0 r1 rg h q => by
  unfold dExtend at h
  split at h
  · rename_i a b
    obtain rfl := r0.of_ref
    obtain ⟨v, r, rfl, rv, rr⟩ := r1.of_cons
    rw [rr.of_nil, rv.of_ref]
    split at h
    · rename_i ds es ea eb
      obtain ⟨_, vs, hv, rd⟩ := rg a _ ea
      obtain ⟨_, us, hu, re⟩ := rg b _ eb
      have h1 := rd.length
      have h2 := re.length
      exact ⟨a, b, vs, us, rfl, rfl, hv, hu, by omega, q.wr rg ea hv (rd.append re) RD.non h.2⟩
    · exact h.elim
  · exact h.elim
theorem ext_go {a b : Addr} {ds es : List D} {G : Gp} {R : DK} (ea : G a = some (.lst ds)) (eb : G b = some (.lst es)) (hl : ds.length + es.length ≤ sizeLine) (k : R .non (gup G a (.lst (ds ++ es)))) : dExtend (.ref a) [.ref b] G R := by
  unfold dExtend
  simp only [ea, eb]
  exact ⟨hl, k⟩
end
end DL

set_option Elab.async false
set_option linter.all false
set_option maxRecDepth 100000
set_option maxHeartbeats 4000000
set_option autoImplicit false
namespace DL
open PySem PySem.Spec PyProof.Rows L2
/-! ### words for readings that many laws share -/
theorem lc_typ {α : Type} {g : DG} {te : DE} {σ : Sd} {gd : Gp → Prop} {G : Gp} (d f : α → D) (hg : gd G) : ∀ (xs : List α) (acc : List D), (∀ x ∈ xs, ∀ Q : DK, Q (f x) G → g (d x) σ G fun σ2 G2 => te σ2 G2 Q) → ∀ Q : List D → Gp → Prop, Q (acc ++ xs.map f) G → dLcGo g dYes te gd σ (xs.map d) acc G Q
  | [], acc, _, Q, q => ⟨hg, by simpa using q⟩
  | x :: xs, acc, h, Q, q => ⟨hg, h x List.mem_cons_self _ (lc_typ d f hg xs (acc ++ [f x]) (fun y hy => h y (List.mem_cons_of_mem _ hy)) Q (by simpa using q))⟩
theorem all_typ {α : Type} {g : DG} {te : DE} {σ : Sd} {gd : Gp → Prop} {G : Gp} (d : α → D) (f : α → Bool) (hg : gd G) (xs : List α) (h : ∀ x ∈ xs, ∀ Q : DK, Q (.bl (f x)) G → g (d x) σ G fun σ2 G2 => te σ2 G2 Q) {Q : DK} (q : Q (.bl (xs.all f)) G) : dLcGo g dYes te gd σ (xs.map d) [] G fun ds G2 => dAll [.lst ds] G2 Q := by
  refine lc_typ d (fun x => .bl (f x)) hg xs [] h _ ?_
  have e : [] ++ xs.map (fun x => D.bl (f x)) = (xs.map f).map D.bl := by simp
  rw [e, all_lst, List.all_map]
  exact q
theorem lc_flt {α : Type} {g : DG} {tt : DT} {te : DE} {σ : Sd} {gd : Gp → Prop} {G : Gp} (d : α → D) (p : α → Option D) (hg : gd G) : ∀ (xs : List α) (acc : List D), (∀ x ∈ xs, ∀ (N : List D → Gp → Prop) (acc : List D), N (acc ++ (p x).toList) G → g (d x) σ G fun σ2 G2 => tt σ2 G2 fun b G3 => match b with | true => te σ2 G3 fun y G4 => N (acc ++ [y]) G4 | false => N acc G3) →
    ∀ Q : List D → Gp → Prop, Q (acc ++ xs.filterMap p) G → dLcGo g tt te gd σ (xs.map d) acc G Q
  | [], acc, _, Q, q => ⟨hg, by simpa using q⟩
  | x :: xs, acc, h, Q, q => by
    refine ⟨hg, h x List.mem_cons_self (fun acc' G' => dLcGo g tt te gd σ (xs.map d) acc' G' Q) acc (lc_flt d p hg xs _ (fun y hy => h y (List.mem_cons_of_mem _ hy)) Q ?_)⟩
    cases e : p x with
    | none => simpa [List.filterMap_cons, e] using q
    | some y => simpa [List.filterMap_cons, e] using q
theorem py_str {z : Str} : pyD (.str z) = true ↔ ∀ c ∈ cds z, c < 1114112 := by
  simp only [pyD, List.all_eq_true, decide_eq_true_eq, cds]
theorem py_of (s : String) : pyD (.str (Str.ofString s)) = true := by
  rw [py_str]
  intro c hc
  rw [Str.ofString_eq_toList] at hc
  have hc : c ∈ s.toList.map Char.toNat := by simpa [cds] using hc
  rw [List.mem_map] at hc
  obtain ⟨x, _, rfl⟩ := hc
  have := x.valid
  unfold Char.toNat
  simp only [UInt32.isValidChar, Nat.isValidChar] at this
  show x.val.toNat < 1114112
  omega
end DL

set_option Elab.async false
set_option linter.all false
set_option maxRecDepth 100000
set_option maxHeartbeats 4000000
set_option autoImplicit false
namespace DL
open PySem PySem.Spec PyProof.Rows L2
/-! ### list(range(n)), tuple(range(n)) -/
section
variable {X : Cx} {a : Expr} {ta : DE} {p p2 pos pos2 : Pos}
end
/-! ### d.get(k, e) of a dict of nested keys -/
section
variable {X : Cx}
variable {o e : Expr} {es : List Expr} {to : DE} {t : DA} {name : Str} {apos cpos : Pos} {id : String} {r : D → List D → Gp → DK → Prop}
end
/-! ### dicts of typed keys and typed values -/
section
variable {α β : Type} [DecidableEq α]
def lookV (l : List (α × β)) (k : α) : Option β := (l.find? fun p => decide (p.1 = k)).map (·.2)
def encV (d : α → D) (v : β → D) (l : List (α × β)) : List (D × D) := l.map fun p => (d p.1, v p.2)
theorem lookV_cons (p : α × β) (l : List (α × β)) (k : α) : lookV (p :: l) k = if p.1 = k then some p.2 else lookV l k := by
  unfold lookV
  rw [List.find?_cons]
  by_cases h : p.1 = k
  · simp [h]
  · simp [h]
variable {d : α → D} {v : β → D} (heq : ∀ a b, eqD (d a) (d b) = decide (a = b))
include heq
theorem ixX_encV (l : List (α × β)) (k : α) : ixX (encV d v l) (d k) = l.findIdx? fun p => decide (p.1 = k) := by
  unfold ixX encV
  rw [List.findIdx?_map]
  exact congrArg (fun f => l.findIdx? f) (funext fun p => heq p.1 k)
theorem putX_encV {l : List (α × β)} {k : α} (z : β) (h : k ∉ l.map (·.1)) : putX (encV d v l) (d k) (v z) = encV d v (l ++ [(k, z)]) := by
  unfold putX
  rw [ixX_encV heq]
  have : l.findIdx? (fun p => decide (p.1 = k)) = none := by
    rw [List.findIdx?_eq_none_iff]
    intro p hp
    exact decide_eq_false fun e => h (List.mem_map.mpr ⟨p, hp, e⟩)
  rw [this]
  simp [encV]
variable {w : World} {G : Gp} {a : Addr} {l : List (α × β)} {k : α}
theorem inV_go {R : DK} {b : Bool} (e : G a = some (GO.dN w (encV d v l))) (hk : kyD (d k) = true) (hd : depD (d k) ≤ 8) (q : R (.bl ((lookV l k).isSome == b)) G) : dInX w b (d k) (.ref a) G R :=
  ⟨a, _, rfl, e, hk, hd, by
    have : (ixX (encV d v l) (d k)).isSome = (lookV l k).isSome := by
      rw [ixX_encV heq]
      unfold lookV
      rw [Option.isSome_map]
      rw [Bool.eq_iff_iff, List.findIdx?_isSome, List.find?_isSome, List.any_eq_true]
    rw [this]; exact q⟩
theorem setV_go {R : Gp → Prop} {z : β} (e : G a = some (GO.dN w (encV d v l))) (hk : kyD (d k) = true) (hd : depD (d k) ≤ 8) (hl : l.length < 1000) (hn : k ∉ l.map (·.1)) (q : R (gup G a (GO.dN w (encV d v (l ++ [(k, z)]))))) : dSetX w (.ref a) (d k) (v z) G R :=
  ⟨a, _, rfl, e, hk, hd, by unfold encV; rw [List.length_map]; exact small1000 (by omega), by rw [putX_encV heq z hn]; exact q⟩
end
end DL

set_option Elab.async false
set_option linter.all false
set_option maxRecDepth 100000
set_option maxHeartbeats 4000000
set_option autoImplicit false
namespace DL
open PySem PySem.Spec PyProof.Rows L2
/-! ### sum, max, min of a list of ints -/
section
variable {X : Cx}
theorem ints_at {K : PySem.W.Frag} {H : Hp} {N : Ns} {G : Gp} {d : D} {v : V} {ns : List Int} (rg : RelG K H N G) (rd : RD K H N d v) (h : lstOf G d = some (ns.map D.int)) : ∃ p, v = .ref p ∧ SqL K H p (ns.map V.int) := by
  obtain ⟨p, vs, rfl, s, r⟩ := lstOf_ok rg rd h
  rw [r.of_ints] at s
  exact ⟨p, rfl, s⟩
def dMinL : DRn := fun cs G R => ∃ (x : D) (ns : List Int), cs = [x] ∧ lstOf G x = some (ns.map D.int) ∧ 0 < ns.length ∧ ∀ m, m ∈ ns → (∀ y, y ∈ ns → m ≤ y) → R (.int m) G
theorem cd_minL (hc : X.calm = true) : CallD X (.builtin "min") dMinL := up_rn (cr_min hc) fun cs G N R xs H Q rd rg h q => by
  obtain ⟨x, ns, rfl, e, hl, h⟩ := h
  obtain ⟨v, r, rfl, r1, r2⟩ := rd.of_cons
  rw [r2.of_nil]
  obtain ⟨p, rfl, s⟩ := ints_at rg r1 e
  exact ⟨p, ns, rfl, s, hl, fun m h1 h2 => q.at rg (h m h1 h2) (RD.int _)⟩
end
theorem any_typ {α : Type} {g : DG} {te : DE} {σ : Sd} {gd : Gp → Prop} {G : Gp} (d : α → D) (f : α → Bool) (hg : gd G) (xs : List α) (h : ∀ x ∈ xs, ∀ Q : DK, Q (.bl (f x)) G → g (d x) σ G fun σ2 G2 => te σ2 G2 Q) {Q : DK} (q : Q (.bl (xs.any f)) G) : dLcGo g dYes te gd σ (xs.map d) [] G fun ds G2 => dAny [.lst ds] G2 Q := by
  refine lc_typ d (fun x => .bl (f x)) hg xs [] h _ ?_
  have e : [] ++ xs.map (fun x => D.bl (f x)) = (xs.map f).map D.bl := by simp
  rw [e, any_lst, List.any_map]
  exact q
theorem br_go {b : Bool} {A B : Prop} (h1 : b = true → A) (h2 : b = false → B) : br b A B := by
  cases b with
  | true => exact h1 rfl
  | false => exact h2 rfl
theorem br_go2 {b c : Bool} {S T A : Prop} (hs : br c T A → S) (h1 : (b && c) = true → T) (h2 : (b && c) = false → A) : br b S A := by
  cases b with
  | true =>
    refine hs ?_
    cases c with
    | true => exact h1 rfl
    | false => exact h2 rfl
  | false => exact h2 rfl
theorem inon_n : isNon .non = true := rfl
theorem inon_i {i : Int} : isNon (.int i) = false := rfl
theorem inon_s {i : Str} : isNon (.str i) = false := rfl
theorem inon_b {i : Bool} : isNon (.bl i) = false := rfl
theorem inon_t {i : List D} : isNon (.tup i) = false := rfl
theorem inon_l {i : List D} : isNon (.lst i) = false := rfl
theorem inon_r {i : Addr} : isNon (.ref i) = false := rfl
/-- a loop over typed things, by an invariant that tells how many are done -/
theorem for_typ {α : Type} {g : DG} {tb : DS} {gd : Gp → Prop} {E : DEnds} (d : α → D) (xs : List α) (I : Nat → Sd → Gp → Prop) (hgd : ∀ k σ G, I k σ G → gd G)
    (turn : ∀ (k : Nat) (x : α) (σ : Sd) (G : Gp), xs[k]? = some x → I k σ G → ∀ N : Sd → Gp → Prop, (∀ σ' G', I (k + 1) σ' G' → N σ' G') → g (d x) σ G fun σ2 G2 => tb { E with nx := N, ct := N, bk := E.nx } σ2 G2)
    (fin : ∀ σ G, I xs.length σ G → E.nx σ G) (σ : Sd) (G : Gp) (h : I 0 σ G) : dForGo g tb gd E (xs.map d) σ G := by
  have key : ∀ (m k : Nat) (σ : Sd) (G : Gp), xs.length - k = m → k ≤ xs.length → I k σ G → dForGo g tb gd E ((xs.drop k).map d) σ G := by
    intro m
    induction m with
    | zero =>
      intro k σ G hm hk i
      have e : k = xs.length := by omega
      subst e
      rw [List.drop_length]
      exact ⟨hgd _ _ _ i, fin σ G i⟩
    | succ m ih =>
      intro k σ G hm hk i
      have hlt : k < xs.length := by omega
      rw [List.drop_eq_getElem_cons hlt, List.map_cons]
      exact ⟨hgd _ _ _ i, turn k xs[k] σ G (List.getElem?_eq_getElem hlt) i _ fun σ' G' i' => ih (k + 1) σ' G' (by omega) (by omega) i'⟩
  have := key xs.length 0 σ G (by omega) (by omega) h
  rwa [List.drop_zero] at this
theorem for_rng {g : DG} {tb : DS} {E : DEnds} (n : Nat) (I : Nat → Sd → Gp → Prop)
    (turn : ∀ (k : Nat) (σ : Sd) (G : Gp), k < n → I k σ G → ∀ N : Sd → Gp → Prop, (∀ σ' G', I (k + 1) σ' G' → N σ' G') → g (.int (k : Nat)) σ G fun σ2 G2 => tb { E with nx := N, ct := N, bk := E.nx } σ2 G2)
    (fin : ∀ σ G, I n σ G → E.nx σ G) (σ : Sd) (G : Gp) (h : I 0 σ G) : dForGo g tb (fun _ => True) E (rng 0 n) σ G := by
  have e : rng 0 n = (List.range n).map fun i => D.int (i : Nat) := by unfold rng; exact List.map_congr_left fun i _ => by rw [Int.zero_add]
  rw [e]
  refine for_typ (fun i : Nat => D.int (i : Nat)) (List.range n) I (fun _ _ _ _ => trivial) (fun k x σ G hx i N hN => ?_) (fun σ G i => fin σ G (by rw [List.length_range] at i; exact i)) σ G h
  have hk := (List.getElem?_eq_some_iff.mp hx).1
  rw [List.length_range] at hk
  rw [List.getElem?_range hk] at hx
  cases hx
  exact turn k σ G hk i N hN
theorem rt_sub {R : DK} {d : D} {G G0 : Gp} (s : Sub G0 G) (h : R d G0) : Rt R d G := ret_sub s h
theorem Sub.put {G G' : Gp} {p : Addr} {o : GO} (s : Sub G G') (h : G p = none) : Sub G (gup G' p o) := fun a u e => by rw [gup_ne (gne e h)]; exact s a u e
theorem pop_go {p : Addr} {d : D} {ds : List D} {G : Gp} {R : DK} (e : G p = some (.lst (ds ++ [d]))) (k : R d (gup G p (.lst ds))) : dPop (.ref p) [] G R := by
  show atL (G p) fun ds => isN ds.getLast? fun d => R d (gup G p (.lst ds.dropLast))
  rw [e]
  simp only [atL_lst, List.getLast?_concat, isN_some, List.dropLast_concat]
  exact k
theorem pyDs_strs : ∀ {zs : List Str}, (∀ y ∈ zs, pyD (.str y) = true) → pyDs (zs.map .str) = true
  | [], _ => rfl
  | z :: zs, h => by
    simp only [List.map_cons, pyDs, Bool.and_eq_true]
    exact ⟨h z List.mem_cons_self, pyDs_strs fun y hy => h y (List.mem_cons_of_mem _ hy)⟩
theorem any_strs (z : Str) (zs : List Str) : ((zs.map D.str).any fun y => eqD y (.str z)) = decide (z ∈ zs) := by
  rw [Bool.eq_iff_iff, List.any_eq_true, decide_eq_true_eq]
  constructor
  · rintro ⟨y, hy, h⟩
    obtain ⟨x, hx, rfl⟩ := List.mem_map.mp hy
    have : x = z := by simpa [eqD] using h
    exact this ▸ hx
  · intro h
    exact ⟨.str z, List.mem_map.mpr ⟨z, h, rfl⟩, by simp [eqD]⟩
theorem inE_tupS {f : Bool → Bool} {z : Str} {zs : List Str} {G : Gp} {R : DK} (hz : pyD (.str z) = true) (hs : ∀ y ∈ zs, pyD (.str y) = true) (k : R (.bl (f (decide (z ∈ zs)))) G) : dInE f (.str z) (.tup (zs.map .str)) G R :=
  ⟨hz, pyDs_strs hs, by simp [depD], by rw [any_strs]; exact k⟩
theorem inE_lstS {f : Bool → Bool} {z : Str} {zs : List Str} {G : Gp} {R : DK} (hz : pyD (.str z) = true) (hs : ∀ y ∈ zs, pyD (.str y) = true) (k : R (.bl (f (decide (z ∈ zs)))) G) : dInE f (.str z) (.lst (zs.map .str)) G R :=
  ⟨hz, pyDs_strs hs, by simp [depD], by rw [any_strs]; exact k⟩
end DL

set_option Elab.async false
set_option linter.all false
set_option maxRecDepth 100000
set_option maxHeartbeats 4000000
set_option autoImplicit false
namespace DL
open PySem PySem.Spec PyProof.Rows L2
/-! ### lists that are known, added -/
theorem eq_empty {ds : List D} {G : Gp} {R : DK} (h : pyDs ds = true) (hd : depDs ds ≤ 60) : dEq (.lst ds) (.lst []) G R = R (.bl (decide (ds = []))) G := by
  rw [eq_pure (by simpa only [pyD] using h) rfl (by simp only [depD]; omega) (by simp [depD, depDs])]
  cases ds with
  | nil => simp [eqD, eqDs]
  | cons d ds => simp [eqD, eqDs]
end DL

set_option Elab.async false
set_option linter.all false
set_option maxRecDepth 100000
set_option maxHeartbeats 4000000
set_option autoImplicit false
namespace DL
open PySem PySem.Spec PyProof.Rows L2
theorem rt_keep {R : DK} {d : D} {G : Gp} {s p : Addr} {o u : GO} (h : s ≠ p) (hp : G p = none) (k : R d (gup G s o)) : Rt R d (gup (gup G p u) s o) := ret_sub (sub_keep h hp) k
/-! ### {..}.get(e, f) -/
section
variable {X : Cx} {pos : Pos} {keys : List (Option Expr)} {values : List Expr}
end
end DL

set_option Elab.async false
set_option linter.all false
set_option maxRecDepth 100000
set_option maxHeartbeats 4000000
set_option autoImplicit false
namespace DL
open PySem PySem.Spec PyProof.Rows L2
/-! ### a, b = x, y and a, b, c = x, y, z -/
section
variable {X : Cx} {pos : Pos}
def dPar (is : List Nat) (t : DA) : DS := fun E σ G => t σ G fun ds G1 => ds.length = is.length ∧ E.nx (setAll σ is ds) G1
theorem qs_par2 {i j : Nat} {x y : Str} {a b : Expr} {ta : DA} {px py pt : Pos} {kt k2 pt2} (hc : X.calm = true) (hN : X.N.Nodup) (hi : X.N[i]? = some x) (hj : X.N[j]? = some y) (hij : i ≠ j)
    (hx : X.env.scope.names.lookup x = some .local) (hy : X.env.scope.names.lookup y = some .local) (ha : QA X [a, b] ta)
    (hw : swappedStores [.Tuple [.Name x px, .Name y py] kt pt] (.Tuple [a, b] k2 pt2) X.env = pure (some [x, y]) := by rfl)
    (hs : swapsWithSole [.Tuple [.Name x px, .Name y py] kt pt] (.Tuple [a, b] k2 pt2) pos.line X.env = pure false := by rfl) :
    QS X (.Assign [.Tuple [.Name x px, .Name y py] kt pt] (.Tuple [a, b] k2 pt2) pos) (dPar [i, j] ta) := ps_mono (ps_par hc hN hi hj hij hx hy ha hw hs) fun D τ H h => by
  obtain ⟨σ, G, N, E, hs, hg, ht, q⟩ := h
  refine ⟨σ, G, N, _, hs, hg, ht, fun ds G' N' vs H' h s' r => ?_⟩
  obtain ⟨hl, h⟩ := h
  match ds, hl with
  | [d1, d2], _ =>
    obtain ⟨v1, r1, rfl, e1, r⟩ := r.of_cons
    obtain ⟨v2, r2, rfl, e2, r⟩ := r.of_cons
    rw [r.of_nil]
    exact ⟨v1, v2, rfl, q.nx _ _ _ _ _ h s' (((hs.le s'.kp).set e1 i).set e2 j)⟩
theorem x_par {is : List Nat} {t : DA} {E : DEnds} {σ : Sd} {G : Gp} : dPar is t E σ G = t σ G fun ds G1 => ds.length = is.length ∧ E.nx (setAll σ is ds) G1 := rfl
end
end DL

set_option Elab.async false
set_option linter.all false
set_option maxRecDepth 100000
set_option maxHeartbeats 4000000
set_option autoImplicit false
namespace DL
open PySem PySem.Spec PyProof.Rows L2
/-! ### all that was known is known still, but for one thing -/
def Ext (s : Addr) (G G' : Gp) : Prop := ∀ a o, a ≠ s → G a = some o → G' a = some o
section
variable {s p : Addr} {G G' : Gp} {o u : GO} {R : DK} {d : D}
theorem Ext.refl (s : Addr) (G : Gp) : Ext s G G := fun _ _ _ h => h
theorem Ext.self (h : Ext s G G') : Ext s G (gup G' s o) := fun a u n e => by rw [gup_ne n]; exact h a u n e
theorem Ext.put (h : Ext s G G') (hp : G p = none) : Ext s G (gup G' p o) := fun a u n e => by rw [gup_ne (gne e hp)]; exact h a u n e
theorem Ext.new (h : Ext s G G') (hp : G' p = none) (hs : s ≠ p) : Ext s G (gup G' p o) := fun a u n e => by
  have := h a u n e
  rw [gup_ne (fun z => by rw [z, hp] at this; cases this)]; exact this
theorem Ext.sub (h : Ext s G G') (e : G' s = some o) : Sub (gup G s o) G' := fun a u ea => by
  by_cases z : a = s
  · subst z; rw [gup_same] at ea; cases ea; exact e
  · rw [gup_ne z] at ea; exact h a u z ea
theorem Ext.nn (h : Ext s G G') (n : p ≠ s) (hp : G' p = none) : G p = none := by
  cases e : G p with
  | none => rfl
  | some u => rw [h p u n e] at hp; cases hp
theorem rt_ext (h : Ext s G G') (e : G' s = some o) (k : R d (gup G s o)) : Rt R d G' := ret_sub (h.sub e) k
theorem fr_ne (e : G' s = some o) (hp : G' p = none) : s ≠ p := fun z => by subst z; rw [e] at hp; cases hp
end
theorem for_lst {α : Type} {g : DG} {tb : DS} {E : DEnds} (d : α → D) (xs : List α) (I : Nat → Sd → Gp → Prop)
    (turn : ∀ (k : Nat) (x : α) (σ : Sd) (G : Gp), xs[k]? = some x → I k σ G → ∀ N : Sd → Gp → Prop, (∀ σ' G', I (k + 1) σ' G' → N σ' G') → g (d x) σ G fun σ2 G2 => tb { E with nx := N, ct := N, bk := E.nx } σ2 G2)
    (fin : ∀ σ G, I xs.length σ G → E.nx σ G) (σ : Sd) (G : Gp) (h : I 0 σ G) : dForGo g tb (fun _ => True) E (xs.map d) σ G := for_typ d xs I (fun _ _ _ _ => trivial) turn fin σ G h
end DL

set_option Elab.async false
set_option linter.all false
set_option maxRecDepth 100000
set_option maxHeartbeats 4000000
set_option autoImplicit false
namespace DL
open PySem PySem.Spec PyProof.Rows L2
/-! ### loops over enumerate, by an invariant that tells how many are done -/
end DL

set_option Elab.async false
set_option linter.all false
set_option maxRecDepth 100000
set_option maxHeartbeats 4000000
set_option autoImplicit false
namespace DL
open PySem PySem.Spec PyProof.Rows L2
/-! ### is, is not of truths -/
section
variable {X : Cx}
end
theorem cut_take {α : Type} (l : List α) (a : Nat) : cutL l none (some (a : Int)) = l.take a := by
  unfold cutL
  rw [HT.sIx_nat]
  simp only [HT.sIx, List.drop_zero, Nat.sub_zero]
  by_cases h : a ≤ l.length
  · rw [Nat.min_eq_left h]
  · rw [Nat.min_eq_right (by omega), List.take_of_length_le (Nat.le_refl _), List.take_of_length_le (by omega)]
end DL

set_option Elab.async false
set_option linter.all false
set_option maxRecDepth 100000
set_option maxHeartbeats 4000000
set_option autoImplicit false
namespace DL
open PySem PySem.Spec PyProof.Rows L2
section
variable {X : Cx}
/-! ### max of three, max with a default -/
end
end DL

set_option Elab.async false
set_option linter.all false
set_option maxRecDepth 100000
set_option maxHeartbeats 4000000
set_option autoImplicit false
namespace DL
open PySem PySem.Spec PyProof.Rows L2
/-! ### instances: attributes, methods, making -/
section
variable {X : Cx} {C : Addr} {f m : Str} {e o value : Expr} {es : List Expr} {pos pos' apos p : Pos} {ta tv : DE} {t : DA} {x : Str} {k : Nat} {g : Addr} {fd : FuncData} {ps : List Str} {sp : DSp}
end
end DL

set_option Elab.async false
set_option linter.all false
set_option maxRecDepth 100000
set_option maxHeartbeats 4000000
set_option autoImplicit false
namespace DL
open PySem PySem.Spec PyProof.Rows L2
/-! ### list(it): what an iterator gives, laid in a new list -/
section
variable {X : Cx} {pins : List (Addr × Obj)} {σ : L2.St} {H : Hp}
/-- an address of ours -/
structure Yg (X : Cx) (pins : List (Addr × Obj)) (b : Addr) : Prop where
  l : b ≠ X.env.locals
  f : b ∉ X.fs
  y : b ∈ X.ex ∨ X.s_0.heap.objs.size ≤ b
  c : ∀ x c, X.env.cells.lookup x = some c → c ≠ b
  p : ∀ p ∈ X.pn ++ pins, p.1 ≠ b
theorem Yg.fp {b : Addr} {H : Hp} (h : Yg X pins b) (n : H b = none) : FpOk X pins H b := ⟨n, h.l, h.f, h.y, h.c, h.p⟩
theorem Yg.cons {b S : Addr} {o : Obj} (h : Yg X pins b) (n : S ≠ b) : Yg X ((S, o) :: pins) b := ⟨h.l, h.f, h.y, h.c, fun p hp => by
  rcases List.mem_append.mp hp with hp | hp
  · exact h.p p (List.mem_append_left _ hp)
  · rcases List.mem_cons.mp hp with rfl | hp
    · exact n
    · exact h.p p (List.mem_append_right _ hp)⟩
/-! ### enumerate of a list -/
variable {a : Expr} {p p2 pos pos2 : Pos}
end
end DL

set_option Elab.async false
set_option linter.all false
set_option maxRecDepth 100000
set_option maxHeartbeats 4000000
set_option autoImplicit false
namespace DL
open PySem PySem.Spec PyProof.Rows L2
/-! ### dicts with texts and numbers as keys, kept -/
def kD : Key → D
  | .inl i => .int i
  | .inr x => .str x
def valD (kvs : List (Key × D)) (k : Key) : Option D := (kvs.find? fun kv => decide (kv.1 = k)).map (·.2)
def putKD (kvs : List (Key × D)) (k : Key) (v : D) : List (Key × D) := if (kvs.any fun kv => decide (kv.1 = k)) = true then kvs.map (fun kv => if kv.1 = k then (kv.1, v) else kv) else kvs ++ [(k, v)]
theorem valD_cons (p : Key × D) (l : List (Key × D)) (k : Key) : valD (p :: l) k = if p.1 = k then some p.2 else valD l k := by
  unfold valD
  rw [List.find?_cons]
  by_cases h : p.1 = k
  · simp [h]
  · simp [h]
theorem of_kD {K : PySem.W.Frag} {H : Hp} {N : Ns} {k : Key} {v : V} (r : RD K H N (kD k) v) : v = kV k := by
  cases k with
  | inl i => exact r.of_int
  | inr z => exact r.of_str
theorem val_rel {K : PySem.W.Frag} {H : Hp} {N : Ns} {k : Key} : ∀ {kvs : List (Key × D)} {kvs' : List (Key × V)}, RKV K H N kvs kvs' → (∀ d, valD kvs k = some d → ∃ v, valV kvs' k = some v ∧ RD K H N d v) ∧ (valD kvs k = none → valV kvs' k = none)
  | [], kvs', r => by
    cases r
    exact ⟨fun d h => (by cases h), fun _ => rfl⟩
  | p :: l, kvs', r => by
    cases r with
    | cons h t =>
      rename_i q l'
      have ih := val_rel (k := k) t
      rw [valD_cons]
      by_cases e : p.1 = k
      · rw [if_pos e, valV_pos (h.1 ▸ e)]
        exact ⟨fun d hd => ⟨_, rfl, by cases hd; exact h.2⟩, fun hd => by cases hd⟩
      · rw [if_neg e, valV_neg (fun z => e (h.1.trans z))]
        exact ih
theorem any_rel {K : PySem.W.Frag} {H : Hp} {N : Ns} {k : Key} : ∀ {kvs : List (Key × D)} {kvs' : List (Key × V)}, RKV K H N kvs kvs' → (kvs.any fun kv => decide (kv.1 = k)) = (kvs'.any fun kv => decide (kv.1 = k))
  | [], kvs', r => by cases r; rfl
  | p :: l, kvs', r => by
    cases r with
    | cons h t => rw [List.any_cons, List.any_cons, any_rel t, h.1]
theorem map_rel {K : PySem.W.Frag} {H : Hp} {N : Ns} {k : Key} {d : D} {v : V} (rv : RD K H N d v) : ∀ {kvs : List (Key × D)} {kvs' : List (Key × V)}, RKV K H N kvs kvs' → RKV K H N (kvs.map fun kv => if kv.1 = k then (kv.1, d) else kv) (kvs'.map fun kv => if kv.1 = k then (kv.1, v) else kv)
  | [], kvs', r => by cases r; exact .nil
  | p :: l, kvs', r => by
    cases r with
    | cons h t =>
      refine .cons ?_ (map_rel rv t)
      rename_i q l'
      dsimp only
      by_cases e : q.1 = k
      · rw [if_pos e, if_pos (h.1.trans e)]; exact ⟨h.1, rv⟩
      · rw [if_neg e, if_neg (fun z => e (h.1.symm.trans z))]; exact h
theorem rkvK_len {K : PySem.W.Frag} {H : Hp} {N : Ns} : ∀ {kvs : List (Key × D)} {kvs' : List (Key × V)}, RKV K H N kvs kvs' → kvs'.length = kvs.length
  | [], kvs', r => by cases r; rfl
  | p :: l, kvs', r => by
    cases r with
    | cons h t => rw [List.length_cons, List.length_cons, rkvK_len t]
theorem put_rel {K : PySem.W.Frag} {H : Hp} {N : Ns} {k : Key} {d : D} {v : V} (rv : RD K H N d v) {kvs : List (Key × D)} {kvs' : List (Key × V)} (r : RKV K H N kvs kvs') : RKV K H N (putKD kvs k d) (putK kvs' k v) := by
  unfold putKD putK
  rw [any_rel r]
  split
  · exact map_rel rv r
  · exact Paired.app r (.cons ⟨rfl, rv⟩ .nil)
theorem zip_rel {K : PySem.W.Frag} {H : Hp} {N : Ns} : ∀ (ks : List Key) {ds : List D} {vs : List V}, RDs K H N ds vs → RKV K H N (ks.zip ds) (ks.zip vs)
  | [], ds, vs, _ => by simp only [List.zip_nil_left]; exact .nil
  | k :: ks, [], vs, r => by rw [r.of_nil]; exact .nil
  | k :: ks, d :: ds, vs, r => by
    obtain ⟨v, us, rfl, r1, r2⟩ := r.of_cons
    exact .cons ⟨rfl, r1⟩ (zip_rel ks r2)
section
variable {X : Cx} {pos : Pos} {keys : List (Option Expr)} {values : List Expr}
def dLitK (l : List (Str × DE)) : DE := fun σ G R => dVals l σ G fun ds G1 => ∀ p, G1 p = none → R (.ref p) (gup G1 p (.dK ((l.map fun q => (Sum.inr q.1 : Key)).zip ds)))
theorem qe_litK {l : List (Str × DE)} (h : PPs X pos keys values (trsOf X.K l)) (hall : keys.all (·.isSome) = true := by rfl) (hl : keys.length = values.length := by rfl) (h0 : keys ≠ [] := by decide) (h15 : keys.length ≤ 15 := by decide)
    (hn : (l.map (·.1)).Nodup := by decide +kernel) (hll : l.length ≤ 15 := by decide) : QE X (.Dict keys values pos) (dLitK l) :=
  pe_mono (pe_disp h hall hl h0 h15) fun τ H Q z p hp => by
    obtain ⟨σ, G, N, R, hs, hg, ht, q⟩ := z
    have s0 : Stp X.K H N G (upd H p (.dK [])) (nadd N p) G := Stp.newN hg hp
    refine tPairs_of l (hs.le s0.kp) s0.rel ht fun ds G' N' vs H' h1 s1 r1 => ?_
    obtain ⟨e1, e2, e3⟩ := s1.fr p _ upd_same (hg.free hp)
    refine ⟨e1, (l.map fun q => (Sum.inr q.1 : Key)).zip vs, zip_split l vs, by rw [List.length_zip, List.length_map]; omega, ?_⟩
    rw [mergeK_new _ [] (by simpa using zip_nodup l vs hn), List.nil_append]
    have s2 := (s0.trans s1).poke (u := .dK ((l.map fun q => (Sum.inr q.1 : Key)).zip vs)) hp e1 e2 (e3 (.inl rfl)) rfl rfl
    have r2 := r1.le (Kp.write (u := .dK ((l.map fun q => (Sum.inr q.1 : Key)).zip vs)) (e3 (.inl rfl)) e1 rfl rfl)
    exact q _ _ _ _ _ (h1 p e2) (s2.know hp (e3 (.inl rfl)) ⟨_, upd_same, zip_rel _ r2⟩) (RD.ref p)
theorem x_litK {l : List (Str × DE)} {σ : Sd} {G : Gp} {R : DK} : dLitK l σ G R = dVals l σ G fun ds G1 => ∀ p, G1 p = none → R (.ref p) (gup G1 p (.dK ((l.map fun q => (Sum.inr q.1 : Key)).zip ds))) := rfl
/-- d[k] -/
def dIxK2 : DR2 := fun x y G R => ∃ a kvs k d, x = .ref a ∧ y = kD k ∧ G a = some (.dK kvs) ∧ valD kvs k = some d ∧ R d G
def dKix (to ti : DE) : DE := fun σ G R => to σ G fun x G1 => ti σ G1 fun y G2 => dIxK2 x y G2 R
theorem qe_ixK2 {o i : Expr} {to ti : DE} {pos : Pos} (hu : X.A.units + 1 < cLine) (ho : QE X o to) (hi : QE X i ti) (hs : NoSl i) : QE X (.Subscript o i pos) (dKix to ti) :=
  pe_mono (pe_dget hu ho hi hs) fun τ H Q z => by
    obtain ⟨σ, G, N, R, hs, hg, ht, q⟩ := z
    refine ⟨σ, G, N, _, hs, hg, ht, fun x G1 N1 v1 H1 h1 s1 r1 => ?_⟩
    refine ⟨σ, G1, N1, _, hs.le s1.kp, s1.rel, h1, fun y G2 N2 v2 H2 h2 s2 r2 => ?_⟩
    obtain ⟨a, kvs, k, d, rfl, rfl, hG, hv, hR⟩ := h2
    obtain rfl := r1.of_ref
    obtain rfl := of_kD r2
    obtain ⟨hN, kvs', hH, rr⟩ := s2.rel a _ hG
    obtain ⟨v, hv2, rv⟩ := (val_rel rr).1 d hv
    exact ⟨a, v, rfl, hv2 ▸ DGet.k hH, q _ _ _ _ _ hR (s1.trans s2) rv⟩
theorem gd_ixK2 (hu : X.A.units + 1 < cLine) : GetD X dIxK2 := by
  intro pins s σ H o i ov iv Q I ro ri h
  obtain ⟨c, d, G, N, R, r1, r2, rg, ⟨a, kvs, k, z, rfl, rfl, hG, hv, hR⟩, q⟩ := h
  obtain rfl := r1.of_ref
  obtain rfl := of_kD r2
  obtain rfl : ov = Value.ref a := ro
  obtain ⟨hN, kvs', hH, rr⟩ := rg a _ hG
  obtain ⟨v, hv2, rv⟩ := (val_rel rr).1 z hv
  exact d_getItem hu I (hv2 ▸ DGet.k hH) ri fun w' s' I' rw' => ⟨v, H, I', rw', q.at rg hR rv⟩
/-- d[k] = v -/
def dSetK2 : DSet := fun o i v G R => ∃ a kvs k, o = .ref a ∧ i = kD k ∧ G a = some (.dK kvs) ∧ kvs.length < sizeLine ∧ R (gup G a (.dK (putKD kvs k v)))
theorem sd_setK2 (hu : X.A.units + 1 < cLine) : SetD X dSetK2 := by
  intro pins s σ H o i v ov iv u Q I ro ri rv h
  obtain ⟨c, d, e, G, N, R, r1, r2, r3, rg, ⟨a, kvs, k, rfl, rfl, hG, hl, hR⟩, q⟩ := h
  obtain rfl := r1.of_ref
  obtain rfl := of_kD r2
  obtain ⟨hN, kvs', hH, rr⟩ := rg a _ hG
  have hlen := rkvK_len rr
  have kw : Kp H N (upd H a (.dK (putK kvs' k v))) N := Kp.write hN hH rfl rfl
  refine set_dict hu pins s σ H _ _ v ov iv u Q I ro ri rv ⟨a, _, rfl, DPut.k hH (by omega), q _ _ _ hR (Stp.write rg hG hH rfl rfl ⟨_, upd_same, (put_rel r3 rr).le kw⟩)⟩
theorem ixK2_go {a : Addr} {kvs : List (Key × D)} {k : Key} {d : D} {G : Gp} {R : DK} (e : G a = some (.dK kvs)) (h : valD kvs k = some d) (q : R d G) : dIxK2 (.ref a) (kD k) G R := ⟨a, kvs, k, d, rfl, rfl, e, h, q⟩
theorem setK2_go {a : Addr} {kvs : List (Key × D)} {k : Key} {v : D} {G : Gp} {R : Gp → Prop} (e : G a = some (.dK kvs)) (hl : kvs.length ≤ 1000) (q : R (gup G a (.dK (putKD kvs k v)))) : dSetK2 (.ref a) (kD k) v G R := ⟨a, kvs, k, rfl, rfl, e, small1000 hl, q⟩
theorem x_kix {to ti : DE} {σ : Sd} {G : Gp} {R : DK} : dKix to ti σ G R = to σ G fun x G1 => ti σ G1 fun y G2 => dIxK2 x y G2 R := rfl
end
end DL

set_option Elab.async false
set_option linter.all false
set_option maxRecDepth 100000
set_option maxHeartbeats 4000000
set_option autoImplicit false
namespace DL
open PySem PySem.Spec PyProof.Rows L2
/-! ### sum(list, ()) of one tuple at most -/
section
variable {prog : Program} {w : World} {A : Around} {E : Value → Shared → Prop} {s : Shared}
end
section
variable {X : Cx}
end
end DL

set_option Elab.async false
set_option linter.all false
set_option maxRecDepth 100000
set_option maxHeartbeats 4000000
set_option autoImplicit false
namespace DL
open PySem PySem.Spec PyProof.Rows L2
/-! ### sorted(xs) of tuples (number, text, more), told apart by the number and the text -/
section
variable {prog : Program} {w : World} {A : Around} {s : Shared}
end
section
variable {X : Cx} {k : Nat}
end
/-! by data -/
end DL

set_option Elab.async false
set_option linter.all false
set_option maxRecDepth 100000
set_option maxHeartbeats 4000000
set_option autoImplicit false
namespace DL
open PySem PySem.Spec PyProof.Rows L2
/-! ### {k: v}, a dict with a nested key -/
section
variable {X : Cx} {pos : Pos}
end
end DL

set_option Elab.async false
set_option linter.all false
set_option maxRecDepth 100000
set_option maxHeartbeats 4000000
set_option autoImplicit false
namespace DL
/-! ### rows of numbers that hold: the plain law -/
theorem nodup_filter {α : Type} {l : List α} (p : α → Bool) (h : l.Nodup) : (l.filter p).Nodup := h.sublist List.filter_sublist
structure Sys where
  B : Nat → Nat → Bool
  L : Nat → Nat → Bool
  F : List Nat → Bool
  Blt : ∀ k o, B k o = true → o < k
  Llt : ∀ k o, L k o = true → o < k
  Fsub : ∀ a b, a.Sublist b → F b = true → F a = true
  Fperm : ∀ a b, a.Perm b → F a = F b
  F1 : ∀ k, F [k] = true
def restN (left row : List Nat) : List Nat := left.filter fun k => decide (k ∉ row)
variable (S : Sys)
/-- a first row of what is left -/
structure FR (left row : List Nat) : Prop where
  sub : row.Sublist left
  beh : ∀ k ∈ row, ∀ o ∈ left, S.B k o = false
  lev : ∀ k ∈ row, ∀ o ∈ left, S.L k o = true → o ∈ row
  fit : S.F row = true
def canJ (left row : List Nat) (k : Nat) : Prop := (∀ o ∈ left, S.L k o = true → o ∈ row) ∧ S.F (row ++ [k]) = true
def readyP (left : List Nat) (k : Nat) : Prop := k ∈ left ∧ ∀ o ∈ left, S.B k o = false
variable {S}
/-- one order more in a first row -/
def insN (left row : List Nat) (k : Nat) : List Nat := left.filter fun j => decide (j ∈ row ∨ j = k)
theorem mem_insN {left row : List Nat} {k j : Nat} : j ∈ insN left row k ↔ j ∈ left ∧ (j ∈ row ∨ j = k) := by
  unfold insN
  rw [List.mem_filter]
  simp
theorem insN_perm {left row : List Nat} {k : Nat} (hn : left.Nodup) (hs : row.Sublist left) (hk : k ∈ left) (hk2 : k ∉ row) : (insN left row k).Perm (row ++ [k]) := by
  have n1 : (insN left row k).Nodup := nodup_filter _ hn
  have n2 : (row ++ [k]).Nodup := by
    rw [List.nodup_append]
    refine ⟨hn.sublist hs, by simp, fun a ha b hb e => ?_⟩
    rw [List.mem_singleton.mp hb] at e
    exact hk2 (e ▸ ha)
  refine (List.perm_ext_iff_of_nodup n1 n2).mpr fun j => ?_
  rw [mem_insN, List.mem_append, List.mem_singleton]
  constructor
  · exact fun h => h.2
  · intro h
    refine ⟨?_, h⟩
    rcases h with h | h
    · exact hs.subset h
    · rw [h]; exact hk
theorem FR.ins {left row : List Nat} {k : Nat} (h : FR S left row) (hn : left.Nodup) (hr : readyP S left k) (hk : k ∉ row) (hc : canJ S left row k) : FR S left (insN left row k) := by
  refine ⟨List.filter_sublist, fun j hj o ho => ?_, fun j hj o ho hl => ?_, ?_⟩
  · rcases (mem_insN.mp hj).2 with c | rfl
    · exact h.beh j c o ho
    · exact hr.2 o ho
  · refine mem_insN.mpr ⟨ho, .inl ?_⟩
    rcases (mem_insN.mp hj).2 with c | rfl
    · exact h.lev j c o ho hl
    · exact hc.1 o ho hl
  · rw [S.Fperm _ _ (insN_perm hn h.sub hr.1 hk)]
    exact hc.2
/-- a way to part what is left into m rows -/
structure Asg (S : Sys) (left : List Nat) (m : Nat) (at_ : Nat → Nat) : Prop where
  lt : ∀ k ∈ left, at_ k < m
  fit : ∀ r, S.F (left.filter fun k => decide (at_ k = r)) = true
  beh : ∀ j ∈ left, ∀ k ∈ left, S.B j k = true → at_ k < at_ j
  lev : ∀ j ∈ left, ∀ k ∈ left, S.L j k = true → at_ k ≤ at_ j
theorem Asg.first {left : List Nat} {m : Nat} {at_ : Nat → Nat} (h : Asg S left m at_) : FR S left (left.filter fun k => decide (at_ k = 0)) := by
  refine ⟨List.filter_sublist, fun k hk o ho => ?_, fun k hk o ho hl => ?_, h.fit 0⟩
  · rw [List.mem_filter, decide_eq_true_iff] at hk
    cases e : S.B k o with
    | false => rfl
    | true => have := h.beh k hk.1 o ho e; omega
  · rw [List.mem_filter, decide_eq_true_iff] at hk
    have := h.lev k hk.1 o ho hl
    exact List.mem_filter.mpr ⟨ho, decide_eq_true (by omega)⟩
/-- rows, one behind the other, that use up what is left -/
def Chn (S : Sys) : List Nat → List (List Nat) → Prop
  | left, [] => left = []
  | left, row :: rows => FR S left row ∧ row ≠ [] ∧ Chn S (restN left row) rows
/-- m rows, and no fewer -/
def IsFew (S : Sys) (left : List Nat) (m : Nat) : Prop := (∃ rows, Chn S left rows ∧ rows.length = m) ∧ ∀ at_ c, Asg S left c at_ → m ≤ c
theorem IsFew.uniq {left : List Nat} {m n : Nat} (hc : ∀ rows, Chn S left rows → ∃ at_, Asg S left rows.length at_) (h : IsFew S left m) (k : IsFew S left n) : m = n := by
  obtain ⟨⟨r1, c1, l1⟩, b1⟩ := h
  obtain ⟨⟨r2, c2, l2⟩, b2⟩ := k
  obtain ⟨a1, g1⟩ := hc _ c1
  obtain ⟨a2, g2⟩ := hc _ c2
  have := b1 _ _ g2
  have := b2 _ _ g1
  omega
end DL

set_option Elab.async false
set_option linter.all false
set_option maxRecDepth 100000
set_option maxHeartbeats 4000000
set_option autoImplicit false
namespace DL
open PySem PySem.Spec PyProof.Rows L2
/-! ### all full first rows, as they are gone through -/
section
variable {S : Sys} {left : List Nat} {c : List Nat → Nat → Bool}
end
/-! ### parts of a list, counted -/
/-! ### dicts with nested keys and any values, typed -/
section
variable {α β : Type} [DecidableEq α]
variable {d : α → D} {v : β → D} (heq : ∀ a b, eqD (d a) (d b) = decide (a = b))
include heq
variable {w : World} {G : Gp} {a : Addr} {l : List (α × β)} {k : α}
end
end DL

set_option Elab.async false
set_option linter.all false
set_option maxRecDepth 100000
set_option maxHeartbeats 4000000
set_option autoImplicit false
namespace DL
open PySem PySem.Spec PyProof.Rows L2
/-! ### a list comprehension whose elements lay new things, by an invariant -/
end DL

set_option Elab.async false
set_option linter.all false
set_option maxRecDepth 100000
set_option maxHeartbeats 4000000
set_option autoImplicit false
namespace DL
open PySem PySem.Spec PyProof.Rows L2
/-! ### the keys of a dict, whatever they are, gone through -/
section
variable {prog : Program} {w : World} {A : Around} {E : Value → Shared → Prop} {s : Shared} {d I : Addr} {o : Obj} {es : Array DictEntry} {ep i : Nat}
end
section
variable {X : Cx}
end
end DL

set_option Elab.async false
set_option linter.all false
set_option maxRecDepth 100000
set_option maxHeartbeats 4000000
set_option autoImplicit false
namespace DL
open PySem PySem.Spec PyProof.Rows L2
/-! ### all first rows, and what may be left behind some -/
/-! ### d[k] = v again -/
section
variable {α β : Type} [DecidableEq α] {d : α → D} {v : β → D} (heq : ∀ a b, eqD (d a) (d b) = decide (a = b))
include heq
variable {w : World} {G : Gp} {a : Addr} {l : List (α × β)} {k : α}
end
end DL

set_option Elab.async false
set_option linter.all false
set_option maxRecDepth 100000
set_option maxHeartbeats 4000000
set_option autoImplicit false
namespace DL
open PySem PySem.Spec PyProof.Rows L2
/-! ### a list that is known, lent to a def that only reads it -/
section
variable {X : Cx} {k : Nat} {f : Addr} {fd : FuncData} {ps : List Str} {sp : DSp} {x : Str} {p pos : Pos} {e : Expr} {es : List Expr} {t : DA}
end
end DL

set_option Elab.async false
set_option linter.all false
set_option maxRecDepth 100000
set_option maxHeartbeats 4000000
set_option autoImplicit false
namespace DL
open PySem PySem.Spec PySem.Calls PyProof.Rows PySem.SeqAt PySem.W L2
/-! ### tuples sorted, the empty one among them -/
section
variable {prog : Program} {w : World} {A : Around} {E : Value → Shared → Prop} {s : Shared}
end
/-! ### sorted(d), the keys of d tuples of numbers -/
def intT (k : List Int) : PyData := .tuple (k.map .int)
theorem alike_ints : ∀ a b : List Int, alikeAll (a.map PyData.int) (b.map PyData.int) = true
  | [], b => by cases b <;> simp [alikeAll]
  | x :: a, [] => by simp [alikeAll]
  | x :: a, y :: b => by simp [alikeAll, alike, alike_ints a b]
theorem alike_intT (ks : List (List Int)) : AllAlike (ks.map intT) := fun d hd d' hd' => by
  obtain ⟨a, _, rfl⟩ := List.mem_map.mp hd
  obtain ⟨b, _, rfl⟩ := List.mem_map.mp hd'
  unfold intT
  simp [alike, alike_ints]
theorem depth_ints : ∀ a : List Int, PyData.depthAll (a.map PyData.int) ≤ 1
  | [] => by simp [PyData.depthAll]
  | x :: a => by
    have := depth_ints a
    simp [PyData.depthAll, PyData.depth]
    omega
theorem depth_intT (k : List Int) : (intT k).depth ≤ 8 := by
  have := depth_ints k
  unfold intT
  simp [PyData.depth]
  omega
section
variable {X : Cx} {k : Nat}
end
/-! by data -/
section
variable {X : Cx} {k : Nat}
/-- the keys of rows of numbers -/
def intsN (k : List Nat) : List Int := k.map fun i : Nat => (i : Int)
end
end DL

set_option Elab.async false
set_option linter.all false
set_option maxRecDepth 100000
set_option maxHeartbeats 4000000
set_option autoImplicit false
namespace DL
open PySem PySem.Spec PyProof.Rows L2
/-! ### d[k] = v and d.get(k, y), whether k is there or not -/
section
variable {α β : Type} [DecidableEq α]
variable {d : α → D} {v : β → D} (heq : ∀ a b, eqD (d a) (d b) = decide (a = b))
include heq
variable {w : World} {G : Gp} {a : Addr} {l : List (α × β)} {k : α}
end
end DL

set_option Elab.async false
set_option linter.all false
set_option maxRecDepth 100000
set_option maxHeartbeats 4000000
set_option autoImplicit false
namespace DL
open PySem PySem.Spec PyProof.Rows L2
/-! ### for k in d -/
/-! ### sorted of a list or tuple of alike things -/
section
variable {X : Cx} {k : Nat}
end
end DL

set_option Elab.async false
set_option linter.all false
set_option maxRecDepth 100000
set_option maxHeartbeats 4000000
set_option autoImplicit false
namespace DL
open PySem PySem.Spec PyProof.Rows L2
/-! ### dict of a list of pairs -/
section
variable {X : Cx} {pins : List (Addr × Obj)} {σ : L2.St} {H : Hp} {s : Shared} {N : Ns} {a : Addr} {kvs : List (D × D)} {kvs' : List (Int × V × V)}
end
/-! typed -/
section
variable {α β : Type} [DecidableEq α] {d : α → D} {v : β → D} (heq : ∀ a b, eqD (d a) (d b) = decide (a = b))
include heq
end
end DL

set_option Elab.async false
set_option linter.all false
set_option maxRecDepth 100000
set_option maxHeartbeats 4000000
set_option autoImplicit false
namespace DL
open PySem PySem.Spec PyProof.Rows L2
/-! ### sorted(xs, key=len), xs tuples -/
section
variable {X : Cx} {k : Nat}
end
/-! by data -/
section
variable {X : Cx} {k : Nat}
end
end DL

set_option Elab.async false
set_option linter.all false
set_option maxRecDepth 100000
set_option maxHeartbeats 4000000
set_option autoImplicit false
namespace DL
open PySem PySem.Spec PyProof.Rows L2
/-! ### ("a", "b"): a tuple of texts of which it is known that it has no dict -/
section
variable {X : Cx} {es : List Expr} {tr : DA} {pos : Pos}
end
end DL

set_option Elab.async false
set_option linter.all false
set_option maxRecDepth 100000
set_option maxHeartbeats 4000000
set_option autoImplicit false
namespace DL
open PySem PySem.Spec PyProof.Rows L2
/-! ### exceptions, by data: a wish tells the class, the fields of its own, the slots, what is known -/
abbrev DXW := Value → List (Str × D) → Sd → Gp → Prop
abbrev DXC := Value → List (Str × D) → Gp → Prop
/-- the dict of an exception's own fields -/
def XdAt (K : PySem.W.Frag) (H : Hp) (N : Ns) (G : Gp) : Option Addr → List (Str × D) → Prop
  | none, fs => fs = []
  | some a, fs => fs ≠ [] ∧ G a = none ∧ ∃ fs', H a = some (.xd fs') ∧ RKV K H N fs fs'
def UpX (K : PySem.W.Frag) (H : Hp) (N : Ns) (G : Gp) (RX : DXW) (W : WX) : Prop := ∀ cls fs σ' G' N' τ' H' d, RX cls fs σ' G' → Stp K H N G H' N' G' → RSt K H' N' σ' τ' → XdAt K H' N' G' d fs → W cls d τ' H'
def UpXC (K : PySem.W.Frag) (H : Hp) (N : Ns) (G : Gp) (RX : DXC) (E : XK) : Prop := ∀ cls fs G' N' H' d, RX cls fs G' → Stp K H N G H' N' G' → XdAt K H' N' G' d fs → E cls d H'
theorem UpX.le {K : PySem.W.Frag} {H H1 : Hp} {N N1 : Ns} {G G1 : Gp} {RX : DXW} {W : WX} (q : UpX K H N G RX W) (s : Stp K H N G H1 N1 G1) : UpX K H1 N1 G1 RX W := fun cls fs σ' G' N' τ' H' d r s' rs x => q cls fs σ' G' N' τ' H' d r (s.trans s') rs x
section
variable {X : Cx} {W : WX} {e a b c : Expr} {pos : Pos} {t ta tb : DXW → DE} {u u' : DXW → DT}
/-! ### what raises nothing -/
/-! ### expressions -/
variable {es : List Expr} {tr : DXW → DA}
end
/-! ### blocks -/
section
variable {X : Cx} {W : WX} {st : Stmt} {rest : List Stmt} {t u : DXW → DS} {e : Expr} {te : DXW → DE} {pos : Pos}
end
/-! ### defs that may raise -/
abbrev DSpX := List D → Gp → DK → DXC → Prop
def upSpX (K : PySem.W.Frag) (sp : DSpX) : Sp := fun vs H Q E => ∃ ds G N R RX, RDs K H N ds vs ∧ RelG K H N G ∧ sp ds G R RX ∧ UpQ K H N G R Q ∧ UpXC K H N G RX E
def FnX (P : Program) (w : World) (K : PySem.W.Frag) (mg : Str → Option Value) (base : Heap) (k : Nat) (f : Addr) (fd : FuncData) (ps : List Str) (sp : DSpX) : Prop := FnOk P w K mg base (L2N.CX P w) k f fd ps (upSpX K sp)
theorem FnX.mono {P : Program} {w : World} {K : PySem.W.Frag} {mg : Str → Option Value} {base : Heap} {j k : Nat} {f : Addr} {fd : FuncData} {ps : List Str} {sp : DSpX} (F : FnX P w K mg base j f fd ps sp) (h : j ≤ k) : FnX P w K mg base k f fd ps sp := FnOk.mono F h
theorem FnX.imp {P : Program} {w : World} {K : PySem.W.Frag} {mg : Str → Option Value} {base : Heap} {k : Nat} {f : Addr} {fd : FuncData} {ps : List Str} {sp sp' : DSpX} (F : FnX P w K mg base k f fd ps sp) (h : ∀ ds G R RX, sp' ds G R RX → sp ds G R RX) : FnX P w K mg base k f fd ps sp' :=
  FnOk.imp F fun vs H Q E ⟨ds, G, N, R, RX, r1, r2, h1, q⟩ => ⟨ds, G, N, R, RX, r1, r2, h ds G R RX h1, q⟩
section
variable {P : Program} {w : World} {K : PySem.W.Frag} {mg : Str → Option Value} {base : Heap}
end
section
variable {X : Cx} {W : WX} {k : Nat} {f : Addr} {fd : FuncData} {ps : List Str} {sp : DSpX} {x : Str} {p pos : Pos} {e : Expr} {es : List Expr} {t : DXW → DA}
end
end DL

set_option Elab.async false
set_option linter.all false
set_option maxRecDepth 100000
set_option maxHeartbeats 4000000
set_option autoImplicit false
namespace DL
open PySem PySem.Spec PyProof.Rows L2
/-! ### comprehensions whose turns may raise -/
section
variable {M : Model} {A : Around} {E : Value → Shared → Prop} {s : Shared} {env : Env}
end
/-! ### an exception leaves the block -/
section
variable {X : Cx} {pins : List (Addr × Obj)} {σ : L2.St} {H : Hp} {s s' : Shared} {B : Heap} {W : WX} {E : XK}
end
end DL

set_option Elab.async false
set_option linter.all false
set_option maxRecDepth 100000
set_option maxHeartbeats 4000000
set_option autoImplicit false
namespace DL
open PySem PySem.Spec PyProof.Rows L2
/-! ### list and dict comprehensions whose element may raise -/
section
variable {X : Cx} {pins : List (Addr × Obj)} {s : Shared} {σ : L2.St} {H : Hp} {Q : VK} {W : WX} {tg iter : Expr} {ifs : List Expr} {sc : Scope} {own : List (Str × Nat)} {g : TG} {tt : TT} {use : Option (Value → Sem Unit)} {Qf : Value → Shared → Prop}
end
/-! ### lists -/
section
variable {X : Cx} {pins : List (Addr × Obj)} {s : Shared} {σ : L2.St} {H : Hp} {Q : VK} {W : WX} {elt tg iter kx : Expr} {ifs : List Expr} {sc : Scope} {own : List (Str × Nat)} {pos pos' : Pos} {wi : TI} {g : TG} {tt : TT} {te tk : TE} {use : Option (Value → Sem Unit)} {Qf : Value → Shared → Prop}
/-! ### dicts, keys ints or texts -/
/-! ### as rules -/
variable {teσ tkσ : L2.St → TE}
end
end DL

set_option Elab.async false
set_option linter.all false
set_option maxRecDepth 100000
set_option maxHeartbeats 4000000
set_option autoImplicit false
namespace DL
open PySem PySem.Spec PyProof.Rows L2
/-! ### comprehensions by data, their element may raise; dict comprehensions -/
theorem UpX.blk {K : PySem.W.Frag} {H H' : Hp} {N N' : Ns} {G G' : Gp} {RX : DXW} {W : WX} {σ : Sd} {τ : L2.St} (q : UpX K H N G RX W) (s : Stp K H N G H' N' G') (rs : RSt K H N σ τ) : UpX K H' N' G' (fun cls fs _ G' => RX cls fs σ G') (fun cls d _ H' => W cls d τ H') :=
  fun cls fs _ G2 N2 _ H2 d r s2 _ x => q cls fs σ G2 N2 τ H2 d r (s.trans s2) (rs.le (s.trans s2).kp) x
theorem RKV.length {K : PySem.W.Frag} {H : Hp} {N : Ns} {a : List (Key × D)} {b : List (Key × V)} (h : RKV K H N a b) : a.length = b.length := Paired.length h
section
variable {X : Cx} {W : WX}
/-! ### raise, try -/
inductive HdsD (X : Cx) : List ExceptHandler → List (Value × DS) → Prop
  | nil : HdsD X [] []
  | cons {x : Str} {c : Value} {ts : DS} {b₀ : Stmt} {suite : List Stmt} {np pos' : Pos} {hds : List ExceptHandler} {l : List (Value × DS)} (hc : Names X x c) (hsu : ∀ (a : Addr) (oe : Obj) (pn : List (Addr × Obj)), QSs (X.suite a ((a, oe) :: pn)) (b₀ :: suite) ts) (r : HdsD X hds l) :
      HdsD X (.ExceptHandler (some (.Name x np)) none (b₀ :: suite) pos' :: hds) ((c, ts) :: l)
theorem HdsD.ok {hds : List ExceptHandler} {l : List (Value × DS)} (h : HdsD X hds l) : L2N.HdsOk X hds (l.map fun q => (q.1, fun _ _ _ => upS X.K q.2)) := by
  induction h with
  | nil => exact .nil
  | cons hc hsu r ih => exact .cons hc (fun a oe cls d pn _ _ => hsu a oe pn) ih
end
/-! ### steps -/
section
variable {σ : Sd} {G : Gp} {R : DK} {RX : DXW} {E : DEnds} {ti : DI} {g : DG} {tt : DT} {tk te : DE} {tkX teX : DXW → DE} {tbX : DXW → DS} {ws : List Nat} {mk : Bool} {K : PySem.W.Frag} {l : List (Value × DS)} {cls : Value} {tr : DA} {sp : DSpX}
end
end DL

set_option Elab.async false
set_option linter.all false
set_option maxRecDepth 100000
set_option maxHeartbeats 4000000
set_option autoImplicit false
namespace DL
open PySem PySem.Spec PyProof.Rows L2
section
variable {X : Cx}
end
end DL

set_option Elab.async false
set_option linter.all false
set_option maxRecDepth 100000
set_option maxHeartbeats 4000000
set_option autoImplicit false
namespace DL
open PySem PySem.Spec PyProof.Rows L2
section
variable {X : Cx} {e : Expr} {t : DE} {σ : Sd} {G : Gp} {R : DK}
end
end DL

set_option Elab.async false
set_option linter.all false
set_option maxRecDepth 100000
set_option maxHeartbeats 4000000
set_option autoImplicit false
namespace DL
open PySem PySem.Spec PyProof.Rows L2
section
variable {X : Cx} {x n y : Str} {c : Value} {i j : Nat} {body : List Stmt} {np pos pos' py pe pa : Pos} {tb : WX → TS}
end
/-! ### by data -/
section
variable {X : Cx} {x n y : Str} {c : Value} {i j : Nat} {body : List Stmt} {np pos pos' py pe pa : Pos} {tb : DXW → DS}
end
/-! ### isinstance of what was caught -/
/-! ### steps -/
section
variable {K : PySem.W.Frag} {G : Gp} {R : DK} {RX : DXW} {E : DEnds} {σ : Sd} {tb : DXW → DS} {c : Value} {i j : Nat} {a Dc : Addr} {cls : Value}
end
end DL

set_option Elab.async false
set_option linter.all false
set_option maxRecDepth 100000
set_option maxHeartbeats 4000000
set_option autoImplicit false
namespace DL
open PySem PySem.Spec PyProof.Rows L2
/-! ### f(k = v, ..) of a def that may raise -/
section
variable {X : Cx} {W : WX} {k : Nat} {f : Addr} {fd : FuncData} {ps ks : List Str} {sp : DSpX} {x : Str} {p pos : Pos} {kws : List Keyword} {tk : DA}
end
end DL

set_option Elab.async false
set_option linter.all false
set_option maxRecDepth 100000
set_option maxHeartbeats 4000000
set_option autoImplicit false
namespace DL
open PySem PySem.Spec PyProof.Rows L2
/-! ### range(i, j) -/
section
variable {X : Cx}
end
end DL

set_option Elab.async false
set_option linter.all false
set_option maxRecDepth 100000
set_option maxHeartbeats 4000000
set_option autoImplicit false
namespace DL
open PySem PySem.Spec PyProof.Rows L2
/-! ### f(a, .., k = v, ..) -/
section
variable {X : Cx} {k : Nat} {f : Addr} {fd : FuncData} {ps ks : List Str} {sp : DSp} {x : Str} {p pos : Pos} {e : Expr} {es : List Expr} {kws : List Keyword} {ta tk : DA}
theorem RDs.app {K : PySem.W.Frag} {H : Hp} {N : Ns} : ∀ {ds es : List D} {vs ws : List V}, RDs K H N ds vs → RDs K H N es ws → RDs K H N (ds ++ es) (vs ++ ws)
  | [], _, _, _, h, h2 => by rw [h.of_nil]; exact h2
  | d :: ds, es, _, ws, h, h2 => by
    obtain ⟨v, vs, rfl, r1, r2⟩ := h.of_cons
    exact RDs.cons r1 (RDs.app r2 h2)
end
/-! ### a list that is known, lent: what is known besides stays so where no list stands in it -/
section
variable {X : Cx} {k : Nat} {f : Addr} {fd : FuncData} {ps : List Str} {sp : DSp} {x : Str} {p pos : Pos} {e : Expr} {es : List Expr} {t : DA}
end
/-! ### != of lists in which known lists stand -/
end DL

set_option Elab.async false
set_option linter.all false
set_option maxRecDepth 100000
set_option maxHeartbeats 4000000
set_option autoImplicit false
namespace DL
open PySem PySem.Spec PyProof.Rows L2
/-! ### sorted of a dict whose keys are alike -/
section
variable {X : Cx} {k : Nat}
end
/-! ### range(i, j, -1) -/
section
variable {X : Cx}
end
end DL

set_option Elab.async false
set_option linter.all false
set_option maxRecDepth 100000
set_option maxHeartbeats 4000000
set_option autoImplicit false
namespace DL
open PySem PySem.Spec PyProof.Rows L2
/-! ### list(zip(xs, ys)) of two lists -/
section
variable {X : Cx} {pins : List (Addr × Obj)} {σ : L2.St} {H : Hp}
variable {a b : Expr} {p p2 pos pos2 : Pos}
end
end DL

set_option Elab.async false
set_option linter.all false
set_option maxRecDepth 100000
set_option maxHeartbeats 4000000
set_option autoImplicit false
namespace DL
open PySem PySem.Spec PyProof.Rows L2
/-! ### len of a dict whose keys are tuples, or of any dict told by its entries -/
section
variable {X : Cx}
end
end DL

set_option Elab.async false
set_option linter.all false
set_option maxRecDepth 100000
set_option maxHeartbeats 4000000
set_option autoImplicit false
namespace DL
open PySem PySem.Spec PyProof.Rows L2
/-! ### tuple * int, by 0 and 1 too -/
section
variable {X : Cx}
end
end DL

set_option Elab.async false
set_option linter.all false
set_option maxRecDepth 100000
set_option maxHeartbeats 4000000
set_option autoImplicit false
namespace DL
open PySem PySem.Spec PyProof.Rows L2
/-! ### [elt for x in xs for y in ys] -/
section
variable {X : Cx}
end
section
variable {X : Cx}
end
end DL

set_option Elab.async false
set_option linter.all false
set_option maxRecDepth 100000
set_option maxHeartbeats 4000000
set_option autoImplicit false
namespace DL
open PySem PySem.Spec PyProof.Rows L2
/-! ### ("a", "b")[:k]: a slice of a tuple of texts without a dict is one again -/
section
variable {X : Cx} {e : Expr} {te : DE} {pos : Pos}
end
end DL

set_option Elab.async false
set_option linter.all false
set_option maxRecDepth 100000
set_option maxHeartbeats 4000000
set_option autoImplicit false
namespace DL
open PySem PySem.Spec PyProof.Rows L2
/-! ### a def that may raise, where it does not -/
theorem FnX.calm {P : Program} {w : World} {K : PySem.W.Frag} {mg : Str → Option Value} {base : Heap} {k : Nat} {f : Addr} {fd : FuncData} {ps : List Str} {sp : DSpX} (F : FnX P w K mg base k f fd ps sp) : FnD P w K mg base k f fd ps (fun ds G R => sp ds G R fun _ _ _ => False) := by
  have lift : ∀ {vs : List V} {H : Hp} {Q : VK} {E : XK}, upSp K (fun ds G R => sp ds G R fun _ _ _ => False) vs H Q E → upSpX K sp vs H Q (fun _ _ _ => False) := by
    rintro vs H Q E ⟨ds, G, N, R, r1, r2, h1, q⟩
    exact ⟨ds, G, N, R, fun _ _ _ => False, r1, r2, h1, q, fun _ _ _ _ _ _ h => h.elim⟩
  refine ⟨fun vs H Q E h => F.len vs H Q _ (lift h), fun A outer s H args us vs Q E hr he hb hv hs => ?_⟩
  refine codeAny_mono (F.run A outer s H args us vs Q (fun _ _ _ => False) hr he hb hv (lift hs)) fun r s' hq => ?_
  cases r with
  | ok fl => cases fl <;> exact hq
  | error e => obtain ⟨_, _, _, _, _, _, _, _, _, _, _, _, hE⟩ := hq; exact hE.elim
end DL

set_option Elab.async false
set_option linter.all false
set_option maxRecDepth 100000
set_option maxHeartbeats 4000000
set_option autoImplicit false
namespace DL
open PySem PySem.Spec PyProof.Rows L2
/-! ### f-strings of texts and ints; partition -/
section
variable {X : Cx} {e : Expr} {te : DE} {pos : Pos}
inductive QJ (X : Cx) : List Expr → List DE → Prop where
  | nil : QJ X [] []
  | cons {e : Expr} {t : DE} {es : List Expr} {ts : List DE} (h : QE X e t) (r : QJ X es ts) : QJ X (e :: es) (t :: ts)
end
section
variable {te : DE} {ts : List DE} {acc x y : Str} {i : Int} {σ : Sd} {G : Gp} {R : DK} {k : Str → Prop}
end
end DL

set_option Elab.async false
set_option linter.all false
set_option maxRecDepth 100000
set_option maxHeartbeats 4000000
set_option autoImplicit false
namespace DL
open PySem PySem.Spec PyProof.Rows L2
/-! ### x in d, d.update(e), of kept dicts with plain keys -/
section
variable {X : Cx}
end
end DL

set_option Elab.async false
set_option linter.all false
set_option maxRecDepth 100000
set_option maxHeartbeats 4000000
set_option autoImplicit false
namespace DL
open PySem PySem.Spec PyProof.Rows L2
/-! ### dict comprehensions over typed things -/
end DL

set_option Elab.async false
set_option linter.all false
set_option maxRecDepth 100000
set_option maxHeartbeats 4000000
set_option autoImplicit false
namespace DL
open PySem PySem.Spec PyProof.Rows L2
/-! ### isinstance(None, a class of the program) -/
variable {X : Cx}
section
variable {K : PySem.W.Frag} {G : Gp} {R : DK} {x a : Addr} {d : D} {ds : List D}
end
end DL

set_option Elab.async false
set_option linter.all false
set_option maxRecDepth 100000
set_option maxHeartbeats 4000000
set_option autoImplicit false
namespace DL
open PySem PySem.Spec PyProof.Rows L2
/-! ### what a def tells, with less known: a new list as a list that nobody changes -/
theorem FnD.wk {P : Program} {w : World} {K : PySem.W.Frag} {mg : Str → Option Value} {base : Heap} {k : Nat} {f : Addr} {fd : FuncData} {ps : List Str} {sp : DSp} (F : FnD P w K mg base k f fd ps sp) : FnD P w K mg base k f fd ps (fun ds G R => sp ds G (Rt R)) :=
  FnOk.imp F fun vs H Q E ⟨ds, G, N, R, r1, r2, h1, q⟩ => ⟨ds, G, N, Rt R, r1, r2, h1, fun d G' N' v H' ⟨d', G2, w, h⟩ s' r => q.wk s' r w h s'.old⟩
end DL

set_option Elab.async false
set_option linter.all false
set_option maxRecDepth 100000
set_option maxHeartbeats 4000000
set_option autoImplicit false
namespace DL
open PySem PySem.Spec PyProof.Rows L2
/-! ### x = {k: v for ..}, x a plain local -/
section
variable {X : Cx} {W : WX} {sc : Scope} {own : List (Str × Nat)} {kx elt tg iter : Expr} {ifs : List Expr} {pos : Pos} {wi : TI} {g : TG} {tt : TT} {teσ tkσ : L2.St → TE}
end
section
variable {X : Cx} {W : WX}
variable {ti : DI} {g : DG} {tt : DT} {tk te : DXW → DE} {ws : List Nat} {σ : Sd} {G : Gp} {R : DK} {RX : DXW}
end
end DL

set_option Elab.async false
set_option linter.all false
set_option maxRecDepth 100000
set_option maxHeartbeats 4000000
set_option autoImplicit false
namespace DL
open PySem PySem.Spec PyProof.Rows L2
/-! ### methods with defaults left out; e.f op= value -/
section
variable {X : Cx} {C : Addr} {f m : Str} {e o value : Expr} {pos tpos apos : Pos} {ta tv : DE} {k : Nat} {g : Addr} {fd : FuncData} {ps : List Str} {sp : DSp}
end
/-! ### defs with defaults -/
end DL

set_option Elab.async false
set_option linter.all false
set_option maxRecDepth 100000
set_option maxHeartbeats 4000000
set_option autoImplicit false
namespace DL
open PySem PySem.Spec PyProof.Rows L2
/-! ### zip of any two iterators, its last pair still held -/
section
variable {prog : Program} {w : World} {A : Around} {E : Value → Shared → Prop} {s : Shared} {z TI TO T i1 i2 : Addr} {fp1 fp2 : List Addr} {n1 n2 i : Nat} {P1 P2 : Nat → Value → Prop} {St1 St2 : Nat → Heap → Prop} {f : Bool} {oT : Obj}
end
end DL

set_option Elab.async false
set_option linter.all false
set_option maxRecDepth 100000
set_option maxHeartbeats 4000000
set_option autoImplicit false
namespace DL
open PySem PySem.Spec PyProof.Rows L2
/-! ### dict(zip(t, xs)) of a tuple of texts and a list, kept -/
section
variable {X : Cx} {pins : List (Addr × Obj)} {σ : L2.St} {H : Hp}
variable {a b : Expr} {p p2 pos pos2 : Pos}
end
end DL

set_option Elab.async false
set_option linter.all false
set_option maxRecDepth 100000
set_option maxHeartbeats 4000000
set_option autoImplicit false
namespace DL
open PySem PySem.Spec PyProof.Rows L2 NdefX
/-! ### a lambda with a parameter, made in a def's body -/
/-- the function object of the lambda F with the body e stands at f -/
def LamO (f : Addr) (F : NF) (e : Expr) : HO := .ext fun h => ∃ pm ctv : Value, h.get? f = some (PySem.W.kla_obj F.name F.qual F.params e F.scope F.cl pm F.c ctv)
theorem lamO_at {P : Program} {w : World} {H : Hp} {h : Heap} {f : Addr} {F : NF} {e : Expr} (hok : HOk P w H h) (k : H f = some (LamO f F e)) : ∃ pm ctv : Value, h.get? f = some (PySem.W.kla_obj F.name F.qual F.params e F.scope F.cl pm F.c ctv) := by
  obtain ⟨z, _, _⟩ := hok f _ k
  exact z
/-- what the making of a lambda changes: the table and a new code object, or nothing; then the new function -/
def LamNew (H : Hp) (P : Addr) (q : Str) (f c' : Addr) (u : HO) (H2 : Hp) : Prop := ∃ H1 : Hp, ((H1 = H ∧ H c' = some (LamX.CodeO c' q)) ∨ ∃ ps more : Array Value, H P = some (.tbl ps) ∧ H c' = none ∧ H1 = upd (upd H c' (LamX.CodeO c' q)) P (.tbl (ps ++ more)) ∧ LamX.TabS H1 P q) ∧ H1 f = none ∧ H2 = upd H1 f u
section
variable {X : Cx} {pins : List (Addr × Obj)} {σ : L2.St} {H : Hp} {s : Shared}
theorem inv_lam {F : NF} {e : Expr} {o : Obj} {t' : Nat} {pm ctv : Value} (I : Inv X pins σ H s) (ho : o = PySem.W.kla_obj F.name F.qual F.params e F.scope F.cl pm F.c ctv) :
    Inv X pins σ (upd H s.heap.objs.size (LamO s.heap.objs.size F e)) { s with heap := s.heap.push o, toks := t' } := by
  subst ho
  refine I.laid (a := s.heap.objs.size) (fun b u e => Heap.get?_push_of_some _ e) (Nat.le_refl _) ?_
  have q := Heap.get?_push_size s.heap (o := PySem.W.kla_obj F.name F.qual F.params e F.scope F.cl pm F.c ctv) rfl
  exact ⟨⟨pm, ctv, q⟩, ⟨_, q⟩, fun h1 h2 ⟨p, t, z⟩ st => ⟨p, t, st _ z⟩⟩
theorem upd_comm {H : Hp} {a b : Addr} {x y : HO} (h : a ≠ b) : upd (upd H a x) b y = upd (upd H b y) a x := by
  funext c
  unfold upd
  by_cases h1 : c = a
  · subst h1
    rw [if_neg h, if_pos rfl, if_pos rfl]
  · by_cases h2 : c = b
    · subst h2
      rw [if_pos rfl, if_neg h1, if_pos rfl]
    · rw [if_neg h2, if_neg h1, if_neg h1, if_neg h2]
theorem lam_mkX {c P : Addr} {params : Arguments} {body : Expr} {scope : Scope} {pos : Pos} {E : Value → Shared → Prop} {Q : Value → Shared → Prop} (I : Inv X pins σ H s) (TB : LamX.TabB X.base X.mg c P) (hcode : X.env.code = .ref c)
    (hT : LamX.TabS H P (X.env.qual ++ "<lambda>")) (hdef : defaultsOf params X.env = ([], [])) (hfree : ∀ y ∈ scope.names, y.2 = .free → ∃ c, X.env.cells.lookup y.1 = some c)
    (h : ∀ (f c' : Addr) (H2 : Hp) (s' : Shared), LamNew H P (X.env.qual ++ "<lambda>") f c' (LamO f ⟨"<lambda>", X.env.qual ++ "<lambda>", params, [], scope, cloFrom X.env.cells scope.names [], c'⟩ body) H2 → Inv X pins σ H2 s' → Q (.ref f) s') :
    wpAny (model X.prog X.w) X.A (eval (.Lambda params body scope pos) X.env) Q E s := by
  obtain ⟨ps, hP, ht, ha⟩ := hT
  refine PySem.W.kla_eval hdef ?_
  have bP : s.heap.BuiltinsAt X.mg P := TB.bm.keeps I.bk
  have hP' : s.heap.get? P = some { cls := .none, data := .fields ps } := I.hok P _ hP
  cases hc : codeAmong pos ps.toList with
  | none =>
    refine PySem.W.kla_makeFunction (mg := X.mg) (c := c) (P := P) (ps := ps) (closure_ok hfree) I.ok.glob (I.mod.glob.keeps I.bk) hcode (TB.code.keeps I.bk) hP' ht hc TB.gP bP fun c' ctv h' tk hx hge hlt hrec htb => ?_
    obtain ⟨c2, oc, vs, t, e2, hoc, hd, hv⟩ := hrec
    cases e2
    have nC : H c' = none := I.hok.fresh hge
    have nPc : c' ≠ P := fun z => by rw [z, hP] at nC; cases nC
    have I1 := LamX.inv_table (t' := tk) (more := #[rawInt pos.line, rawInt pos.col, .ref c']) (h' := h') (q := X.env.qual ++ "<lambda>") I hP (fun b o hb e => hx b o hb e) htb hge ⟨oc, vs, t, hoc, hd, hv⟩
    rw [← upd_comm nPc] at I1
    have eL : (ps ++ #[rawInt pos.line, rawInt pos.col, .ref c']).toList = ps.toList ++ [rawInt pos.line, rawInt pos.col, .ref c'] := by simp
    have I2 := inv_lam (F := ⟨"<lambda>", X.env.qual ++ "<lambda>", params, [], scope, cloFrom X.env.cells scope.names [], c'⟩) (e := body) (t' := tk) (pm := (X.mg "__name__").getD .none) (ctv := ctv) I1 rfl
    refine h h'.objs.size c' _ _ ⟨_, .inr ⟨ps, _, hP, nC, rfl, _, upd_same, by rw [eL]; exact PySem.TriplesOk_snoc _ _ _ _ ht, fun p' cv hcv => ?_⟩, I1.hok.fresh (Nat.le_refl _), rfl⟩ I2
    rw [eL] at hcv
    rcases LamX.among_app _ ht hcv with z | z
    · obtain ⟨c0, e1, e2⟩ := ha p' cv z
      refine ⟨c0, e1, ?_⟩
      rw [upd_ne (fun y => by rw [y, hP] at e2; unfold LamX.CodeO at e2; cases e2), upd_ne (ne_of_none e2 nC)]
      exact e2
    · exact ⟨c', z, by rw [upd_ne nPc]; exact upd_same⟩
  | some cv =>
    obtain ⟨c', e, hco⟩ := ha pos cv hc
    subst e
    refine PySem.W.kla_makeFunctionHit (mg := X.mg) (c := c) (P := P) (ps := ps) (closure_ok hfree) I.ok.glob (I.mod.glob.keeps I.bk) hcode (TB.code.keeps I.bk) hP' ht hc bP fun ctv h' tk hx hsz => ?_
    have I1 : Inv X pins σ H { s with heap := h', toks := tk } := I.kept hx
    have I2 := inv_lam (F := ⟨"<lambda>", X.env.qual ++ "<lambda>", params, [], scope, cloFrom X.env.cells scope.names [], c'⟩) (e := body) (t' := tk) (pm := (X.mg "__name__").getD .none) (ctv := ctv) I1 rfl
    exact h h'.objs.size c' _ _ ⟨H, .inl ⟨rfl, hco⟩, I1.hok.fresh (Nat.le_refl _), rfl⟩ I2
/-- by data: the making keeps what is known -/
theorem LamNew.stp {K : PySem.W.Frag} {N : Ns} {G : Gp} {P : Addr} {q : Str} {f c' : Addr} {u : HO} {H2 : Hp} (r : RelG K H N G) (hG : G P = some (.tab q)) (n : LamNew H P q f c' u H2) : Stp K H N G H2 N G ∧ H2 f = some u ∧ G f = none ∧ H2 c' = some (LamX.CodeO c' q) := by
  obtain ⟨H1, h1, hf, rfl⟩ := n
  have key : Stp K H N G H1 N G ∧ H1 c' = some (LamX.CodeO c' q) := by
    rcases h1 with ⟨rfl, hc⟩ | ⟨ps, more, hP, nC, rfl, ht⟩
    · exact ⟨Stp.refl r, hc⟩
    · have nPc : P ≠ c' := fun z => by rw [z, nC] at hP; cases hP
      have s1 : Stp K H N G (upd H c' (LamX.CodeO c' q)) N G := Stp.new0 r nC
      have hP1 : upd H c' (LamX.CodeO c' q) P = some (.tbl ps) := by rw [upd_ne nPc]; exact hP
      have s2 := Stp.writeC (u := .tbl (ps ++ more)) (o := .tab q) s1.rel hG hP1 chg_tbl rfl ht
      rw [gup_self hG] at s2
      exact ⟨s1.trans s2, by rw [upd_ne nPc.symm]; exact upd_same⟩
  obtain ⟨s1, hc⟩ := key
  refine ⟨s1.trans (Stp.new0 s1.rel hf), upd_same, s1.rel.free hf, ?_⟩
  rw [upd_ne (fun z => by rw [← z, hc] at hf; cases hf)]
  exact hc
/-- the lambda called: its body runs -/
theorem lam_run {F : NF} {f : Addr} {body : Expr} {M fr : List Str} {pr : Str} {js : List Nat} {k : Nat} {tb : TE} {Q : VK} {x : V} {u : Value} (S : NScope M [pr] fr F.scope) (caps : X.Ok → Caps X F.cl fr js)
    (hb : ∀ (pm ctv : Value), bindArgs (PySem.W.kla_fn F.name F.qual F.params body F.scope F.cl pm (.ref F.c) ctv) ⟨[u], []⟩ = pure [(pr, u)])
    (hbody : ∀ (A : Around) (outer : List Env) (s : Shared) (H : Hp), Room k (A.deeper (envF F f s.heap.objs.size)) → PE (ncx CX0 X.prog X.w X.K X.mg X.base M F f A outer s H E0) body tb)
    (hr : Room (k + 3) X.A) (I : Inv X pins σ H s) (hf : H f = some (LamO f F body)) (hc : H F.c = some (LamX.CodeO F.c F.qual)) (r : RelV x u) (h : tb (startF M [x] (js.map (slotAt σ))) H Q) :
    wpAny (model X.prog X.w) X.A.in1.in1 (call (.ref f) [u]) (EP X pins σ Q) (fun _ _ => False) s := by
  have C := cells_of I (caps I.ok)
  obtain ⟨pm, ctv, ho⟩ := lamO_at I.hok hf
  have hr2 : Room (k + 1) X.A.in1.in1 := Room.in1 (Room.in1 hr)
  have rc : codeAny (model X.prog X.w) X.A.in1.in1 (.call (.ref f) ⟨[u], []⟩) (CR CX0 X.stack X.prog X.w H s Q E0) s := by
    refine PySem.W.kla_callFunE hr2.depth ho rfl S.co S.gen rfl (codeO_at I.hok hc) ?_
    rw [hb pm ctv]
    refine wpAny_pure (wpAny_newFunctionEnv S.nocell (fun y hy => ?_) (fun h₁ hns hsb => ⟨I.nolimit.fresh _ hsb, ?_⟩) S.kind)
    · obtain rfl := List.mem_singleton.mp hy
      exact S.par _ (List.mem_singleton.mpr rfl)
    show codeAny _ _ (.expr body (envF F f s.heap.objs.size)) _ _
    have kp : ∀ b o, s.heap.get? b = some o → h₁.get? b = some o := fun b o e => hsb.extBut b o (Nat.ne_of_lt (Heap.lt_size e)) (Heap.get?_push_of_some _ e)
    have J : Inv (ncx CX0 X.prog X.w X.K X.mg X.base M F f X.A.in1.in1 X.stack s H E0) [] (startF M [x] (js.map (slotAt σ))) H { s with heap := h₁, toks := s.toks + ([pr].zip [u]).length } := inv_startN (us := [u]) S hr2.hd I.env0.in1.in1 rfl (.cons r .nil) C hns kp
    refine PySem.W.kla_codeExpr (wpAny_mono ((hbody _ _ s H (hr2.deeper _)).run [] _ _ H Q J h) (fun v s' hq => ?_) fun e s' hq => hq)
    obtain ⟨w', H', J', rv, q⟩ := hq
    exact ⟨w', H', J'.os, J'.bare, J'.base, J'.hok, rv, q⟩
  refine wpAny_call (codeAny_mono rc fun r s' hq => ?_)
  cases r with
  | error e => exact hq.elim
  | ok fl =>
    cases fl with
    | ret u => exact I.after hq
    | next => exact False.elim hq
    | brk => exact False.elim hq
    | cont => exact False.elim hq
end
theorem LamNew.keep {H : Hp} {P : Addr} {q : Str} {f c' : Addr} {u : HO} {H2 : Hp} (n : LamNew H P q f c' u H2) {b : Addr} {o : HO} (h : H b = some o) (ht : ∀ ps, o ≠ .tbl ps) : H2 b = some o := by
  obtain ⟨H1, h1, hf, rfl⟩ := n
  have e : H1 b = some o := by
    rcases h1 with ⟨rfl, _⟩ | ⟨ps, more, hP, nC, rfl, _⟩
    · exact h
    · rw [upd_ne (fun z => ht ps (by rw [z, hP] at h; exact (Option.some.inj h).symm)), upd_ne (ne_of_none h nC)]
      exact h
  rw [upd_ne (ne_of_none e hf)]
  exact e
theorem LamNew.seq {K : PySem.W.Frag} {H : Hp} {P : Addr} {q : Str} {f c' : Addr} {u : HO} {H2 : Hp} (n : LamNew H P q f c' u H2) {a : Addr} {xs : List V} (h : SqL K H a xs ∨ SqT K H a xs) : SqL K H2 a xs ∨ SqT K H2 a xs := by
  rcases h with ((h | ⟨o, h⟩) | h) | ((h | ⟨o, h⟩) | h)
  · exact .inl (.inl (.inl (n.keep h fun ps e => by cases e)))
  · exact .inl (.inl (.inr ⟨o, n.keep h fun ps e => by cases e⟩))
  · exact .inl (.inr h)
  · exact .inr (.inl (.inl (n.keep h fun ps e => by cases e)))
  · exact .inr (.inl (.inr ⟨o, n.keep h fun ps e => by cases e⟩))
  · exact .inr (.inr h)
abbrev lamF (q : Str) (params : Arguments) (scope : Scope) (cl : List (Str × Addr)) (c' : Addr) : NF := ⟨"<lambda>", q, params, [], scope, cl, c'⟩
def spRawL (f : Addr) (F : NF) (body : Expr) (M : List Str) (ws : List (Option V)) (tb : TE) : Sp := fun vs H Q _ => H f = some (LamO f F body) ∧ H F.c = some (LamX.CodeO F.c F.qual) ∧ ∃ x, vs = [x] ∧ tb (startF M [x] ws) H Q
def tSortLam (K : PySem.W.Frag) (P : Addr) (q : Str) (mk : Addr → NF) (body : Expr) (M : List Str) (js : List Nat) (tb : TE) (t : TA) : TE := fun σ H Q => t σ H fun vs H1 => ∃ a xs, vs = [.ref a] ∧ LamX.TabS H1 P q ∧ (SqL K H1 a xs ∨ SqT K H1 a xs) ∧
  ∀ f c' H2, LamNew H1 P q f c' (LamO f (mk c') body) H2 → tKeys (spRawL f (mk c') body M (js.map (slotAt σ)) tb) xs [] H2 fun ks H3 => ∃ kz, DpAll K H3 ks kz ∧ PySem.W.AllAlike kz ∧ PySem.W.Sortable kz ∧ (∀ d ∈ kz, d.depth ≤ 8) ∧ ∀ p, H3 p = none → Q (.ref p) (upd H3 p (.lst (keyOut xs kz)))
section
variable {X : Cx}
theorem pe_sortLam {c P : Addr} {params : Arguments} {body : Expr} {scope : Scope} {lpos p p3 pos : Pos} {M fr : List Str} {pr : Str} {js : List Nat} {k : Nat} {tb : TE} {e : Expr} {t : TA}
    (TB : LamX.TabB X.base X.mg c P) (hcode : X.env.code = .ref c) (hdef : defaultsOf params X.env = ([], [])) (S : NScope M [pr] fr scope) (nb : ndefB X.env.scope scope fr = true) (hjs : js.map (fun j => X.N[j]?) = fr.map some)
    (hb : ∀ (q : Str) (cl : List (Str × Addr)) (c' : Addr) (pm ctv u : Value), bindArgs (PySem.W.kla_fn "<lambda>" q params body scope cl pm (.ref c') ctv) ⟨[u], []⟩ = pure [(pr, u)])
    (hbody : ∀ (q : Str) (cl : List (Str × Addr)) (c' f : Addr) (A : Around) (outer : List Env) (s : Shared) (H : Hp), Room k (A.deeper (envF (lamF q params scope cl c') f s.heap.objs.size)) → PE (ncx CX0 X.prog X.w X.K X.mg X.base M (lamF q params scope cl c') f A outer s H E0) body tb)
    (hr : Room (k + 3) X.A) (hg : Gl X "sorted") (hm : X.mg "sorted" = none) (ha : PA X [e] t)
    (he : backTo pos (starEach [e] X.env) = (false, eval e X.env) :: backTo pos (starEach [] X.env) := by rfl) (hpl : (backTo pos (starEach [e] X.env)).any (·.1) = false := by rfl) :
    PE X (.Call (.Name "sorted" p) [e] [⟨some "key", .Lambda params body scope lpos, p3⟩] pos) (tSortLam X.K P (X.env.qual ++ "<lambda>") (fun c' => lamF (X.env.qual ++ "<lambda>") params scope (cloFrom X.env.cells scope.names []) c') body M js tb t) := by
  refine ⟨fun pins s σ H Q I h => ?_⟩
  refine wpAny_Call_Name_kw (ld_blt I hg hm (show bootBuiltins (Str.ofString "sorted") = some (.builtin "sorted") by decide +kernel) ?_ (by decide) (by decide))
  refine PyProof.Rows.callWith_kw (thn (ha.run pos pins s σ H _ I h) fun us s1 ⟨vs, H1, I1, r1, q1⟩ => ?_) he hpl rfl rfl
  obtain ⟨a, xs, rfl, hT, sq, q1⟩ := q1
  obtain rfl := Vals.ref1 r1
  have hfree : ∀ y ∈ scope.names, y.2 = .free → ∃ c, X.env.cells.lookup y.1 = some c := fun y hy e => (ndef_free nb y hy e).elim (fun z => I.ok.has _ (.inl z)) fun z => I.ok.has _ (.inr z)
  show wpAny _ _ (evalAll [(do let v ← eval (.Lambda params body scope lpos) X.env; standAt pos; pure v)]) _ _ s1
  refine wpAny_evalAll_cons (wpAny_bind (lam_mkX I1 TB hcode hT hdef hfree fun f c' H2 s2 hn I2 => wpAny_bind (wpAny_standAt (wpAny_pure ?_))))
  refine wpAny_evalAll_nil ?_
  show wpAny _ _ (call (.builtin "sorted") [.ref a] [(Str.ofString "key", .ref f)]) _ _ s2
  have q2 := q1 f c' H2 hn
  have sq2 := hn.seq (K := X.K) sq
  obtain ⟨its, rv, T, o, n, hT, ho, hc, hd, hz⟩ : ∃ its, Vals xs its ∧ ∃ T o n, (T = "list" ∨ T = "tuple") ∧ s2.heap.get? a = some o ∧ o.cls = .type T ∧ o.data = .seq its.toArray n ∧ its.length ≤ sizeLine := by
    rcases sq2 with hs | hs
    · obtain ⟨its, rv, hl, hz⟩ := I2.list hs
      obtain ⟨o, ho, hc, n, hd⟩ := hl.isList
      exact ⟨its, rv, "list", o, n, .inl rfl, ho, hc, hd, by rw [← rv.length]; exact hz⟩
    · obtain ⟨its, rv, ⟨o, ho, hc, n, hd⟩, hz⟩ := I2.tuple hs
      exact ⟨its, rv, "tuple", o, n, .inr rfl, ho, hc, hd, by rw [← rv.length]; exact hz⟩
  refine own_sorted hT ho hc hd hz (ksk_s1 _ _) (fun x => ksk_l1 _ _) fun g E' hg => ?_
  refine sortK_coreV (s := { s2 with heap := g }) (.ref f) (ksk_t1 f) (fun pins H s Q x u I' ry ht => ?_) (k := k + 1) hr (I2.kept (t' := s2.toks) hg) rv hz q2
  obtain ⟨hf, hc, y, ey, ht⟩ := ht
  cases ey
  refine lam_run (F := lamF (X.env.qual ++ "<lambda>") params scope (cloFrom X.env.cells scope.names []) c') S (fun ok => Caps.made ok (ndef_free nb) (ndef_fr nb) hjs) (fun pm ctv => hb _ _ _ pm ctv u) (hbody _ _ _ _) hr I' hf hc ry ht
end
/-! by data -/
def slotD (σ : Sd) (j : Nat) : Option D := match σ[j]? with
  | some o => o
  | none => none
def startFD (M : List Str) (d : D) (ws : Sd) : Sd := some d :: (ws ++ List.replicate (M.length - 1 - ws.length) none)
theorem rst_slots {K : PySem.W.Frag} {H : Hp} {N : Ns} {σ : Sd} {τ : L2.St} (r : RSt K H N σ τ) (js : List Nat) : RSt K H N (js.map (slotD σ)) (js.map (slotAt τ)) := by
  refine ⟨by rw [List.length_map, List.length_map], fun i d e => ?_⟩
  rw [List.getElem?_map] at e ⊢
  cases ej : js[i]? with
  | none => rw [ej] at e; cases e
  | some j =>
    rw [ej] at e
    have e : slotD σ j = some d := Option.some.inj e
    have e2 : σ[j]? = some (some d) := by
      unfold slotD at e
      cases es : σ[j]? with
      | none => rw [es] at e; cases e
      | some o => rw [es] at e; have e : o = some d := e; rw [e]
    obtain ⟨v, h1, h2⟩ := r.2 j d e2
    exact ⟨v, congrArg some (slotAt_of h1), h2⟩
theorem rst_startF {K : PySem.W.Frag} {H : Hp} {N : Ns} {M : List Str} {d : D} {v : V} {wd : Sd} {wv : L2.St} (r : RD K H N d v) (rw_ : RSt K H N wd wv) : RSt K H N (startFD M d wd) (startF M [v] wv) := by
  refine ⟨?_, fun i x e => ?_⟩
  · unfold startFD startF
    simp only [List.length_cons, List.length_append, List.length_replicate, List.map_cons, List.map_nil, List.length_nil, rw_.1]
    omega
  · unfold startFD at e
    unfold startF
    cases i with
    | zero =>
      have e : d = x := by simpa using e
      subst e
      exact ⟨v, rfl, r⟩
    | succ i =>
      rw [List.getElem?_cons_succ] at e
      show ∃ u, (some v :: (wv ++ List.replicate (M.length - [v].length - wv.length) none))[i + 1]? = some (some u) ∧ _
      rw [List.getElem?_cons_succ]
      by_cases hi : i < wd.length
      · rw [List.getElem?_append_left hi] at e
        rw [List.getElem?_append_left (by rw [← rw_.1]; exact hi)]
        exact rw_.2 i x e
      · rw [List.getElem?_append_right (by omega), List.getElem?_replicate] at e
        split at e <;> cases e
theorem keys_upL {K : PySem.W.Frag} {tb : DE} {M : List Str} {wd : Sd} {wv : L2.St} {f : Addr} {F : NF} {body : Expr} {Q : List D → Gp → Prop} {Q' : List V → Hp → Prop} {H0 : Hp} {N0 : Ns} {G0 : Gp} (hf : H0 f = some (LamO f F body)) (hgf : G0 f = none) (hc : H0 F.c = some (LamX.CodeO F.c F.qual)) (rw_ : RSt K H0 N0 wd wv)
    (q : ∀ kd kv G' N' H', Q kd G' → Stp K H0 N0 G0 H' N' G' → RDs K H' N' kd kv → Q' kv H') :
    ∀ (ds : List D) (vs : List V) (kd : List D) (kv : List V) (H : Hp) (N : Ns) (G : Gp), Stp K H0 N0 G0 H N G → RDs K H N ds vs → RDs K H N kd kv → dKeys (fun ds G R => ∃ d, ds = [d] ∧ tb (startFD M d wd) G R) ds kd G Q → tKeys (spRawL f F body M wv (up K tb)) vs kv H Q'
  | [], vs, kd, kv, H, N, G, st, r, rk, h => by
    rw [r.of_nil]
    exact q kd kv G N H h st rk
  | d :: ds, vs, kd, kv, H, N, G, st, r, rk, h => by
    obtain ⟨v, vs, rfl, r1, r2⟩ := r.of_cons
    obtain ⟨d', e', h⟩ := h
    cases e'
    refine ⟨(st.fr f _ hf hgf).1, st.kp.kle.kco _ _ hc, v, rfl, startFD M d wd, G, N, _, rst_startF r1 (rw_.le st.kp), st.rel, h, fun k G1 N1 u H1 h1 s1 r3 => ?_⟩
    exact keys_upL hf hgf hc rw_ q ds vs (kd ++ [k]) (kv ++ [u]) H1 N1 G1 (st.trans s1) (r2.le s1.kp) ((rk.le s1.kp).append (RDs.cons r3 RDs.nil)) h1
def dSortL (P : Addr) (qn : Str) (M : List Str) (js : List Nat) (tb : DE) (mk : Bool) (te : DE) : DE := fun σ G R => te σ G fun x G1 => G1 P = some (.tab qn) ∧ dSortK1 mk (fun ds G R => ∃ d, ds = [d] ∧ tb (startFD M d (js.map (slotD σ))) G R) x G1 R
section
variable {X : Cx}
theorem qe_sortL (mk : Bool) {c P : Addr} {params : Arguments} {body : Expr} {scope : Scope} {lpos p p3 pos : Pos} {M fr : List Str} {pr : Str} {js : List Nat} {k : Nat} {tb te : DE} {e : Expr}
    (TB : LamX.TabB X.base X.mg c P) (hcode : X.env.code = .ref c) (hdef : defaultsOf params X.env = ([], [])) (S : NScope M [pr] fr scope) (nb : ndefB X.env.scope scope fr = true) (hjs : js.map (fun j => X.N[j]?) = fr.map some)
    (hb : ∀ (q : Str) (cl : List (Str × Addr)) (c' : Addr) (pm ctv u : Value), bindArgs (PySem.W.kla_fn "<lambda>" q params body scope cl pm (.ref c') ctv) ⟨[u], []⟩ = pure [(pr, u)])
    (hbody : ∀ (q : Str) (cl : List (Str × Addr)) (c' f : Addr) (A : Around) (outer : List Env) (s : Shared) (H : Hp), Room k (A.deeper (envF (lamF q params scope cl c') f s.heap.objs.size)) → QE (ncx CX0 X.prog X.w X.K X.mg X.base M (lamF q params scope cl c') f A outer s H E0) body tb)
    (hr : Room (k + 3) X.A) (hg : Gl X "sorted") (hm : X.mg "sorted" = none) (he : QE X e te) (hs : starEach [e] X.env = (false, eval e X.env) :: starEach [] X.env := by rfl)
    (he1 : backTo pos (starEach [e] X.env) = (false, eval e X.env) :: backTo pos (starEach [] X.env) := by rfl) (hpl : (backTo pos (starEach [e] X.env)).any (·.1) = false := by rfl) :
    QE X (.Call (.Name "sorted" p) [e] [⟨some "key", .Lambda params body scope lpos, p3⟩] pos) (dSortL P (X.env.qual ++ "<lambda>") M js tb mk te) := by
  refine pe_mono (pe_sortLam (tb := up X.K tb) TB hcode hdef S nb hjs hb hbody hr hg hm (qa_cons he qa_nil hs) he1 hpl) fun τ H Q h => ?_
  obtain ⟨σ, G, N, R, hs, hgg, ht, q⟩ := h
  refine ⟨σ, G, N, fun ds G1 => (match ds with | [x] => G1 P = some (.tab (X.env.qual ++ "<lambda>")) ∧ dSortK1 mk (fun ds G R => ∃ d, ds = [d] ∧ tb (startFD M d (js.map (slotD σ))) G R) x G1 R | _ => False), hs, hgg, ht, fun ds G1 N1 vs H1 h1 s1 r1 => ?_⟩
  dsimp only at h1 ⊢
  split at h1
  · rename_i x
    obtain ⟨hG, h1⟩ := h1
    obtain ⟨v, vs, rfl, r2, r3⟩ := r1.of_cons
    rw [r3.of_nil]
    unfold dSortK1 at h1
    split at h1
    · rename_i ds e
      obtain ⟨a, us, rfl, sq, rd⟩ := seqOf_ok s1.rel r2 e
      refine ⟨a, us, rfl, (s1.rel P _ hG).2, sq, fun f c' H2 hn => ?_⟩
      obtain ⟨s2, hf, hgf, hc⟩ := hn.stp s1.rel hG
      refine keys_upL (H0 := H2) (N0 := N1) (G0 := G1) hf hgf hc (rst_slots (hs.le (s1.kp.trans s2.kp)) js) (fun kd kv G3 N3 H3 h2 s3 rk => ?_) ds us [] [] H2 N1 G1 (Stp.refl s2.rel) (rd.le s2.kp) RDs.nil h1
      split at h2
      · rename_i kz ek
        obtain ⟨hl, h2⟩ := h2
        have hkl := keysP_len ek
        refine ⟨kz.map pyK, toPys_ok rk (keysP_py ek), fun d hd d' hd' => ?_, .inl fun d hd => ?_, fun d hd => ?_, fun p np => ?_⟩
        · obtain ⟨k1, _, rfl⟩ := List.mem_map.mp hd
          obtain ⟨k2, _, rfl⟩ := List.mem_map.mp hd'
          rfl
        · obtain ⟨k1, _, rfl⟩ := List.mem_map.mp hd
          exact ⟨_, _, rfl⟩
        · obtain ⟨k1, _, rfl⟩ := List.mem_map.mp hd
          simp only [pyK, PyData.depth, PyData.depthAll]
          omega
        · rw [keyOut_eq]
          exact newL_ok s3.rel (rds_sortK (rd.le (s2.kp.trans s3.kp)) (by omega)) h2 (q.le ((s1.trans s2).trans s3)) np
      · exact h2.elim
    · exact h1.elim
  · exact h1.elim
theorem x_sortL {P : Addr} {qn : Str} {M : List Str} {js : List Nat} {tb te : DE} {mk : Bool} {σ : Sd} {G : Gp} {R : DK} : dSortL P qn M js tb mk te σ G R = te σ G fun x G1 => G1 P = some (.tab qn) ∧ dSortK1 mk (fun ds G R => ∃ d, ds = [d] ∧ tb (startFD M d (js.map (slotD σ))) G R) x G1 R := rfl
end
/-! a def whose code object is known -/
theorem fun_okL {P : Program} {w : World} {K : PySem.W.Frag} {mg : Str → Option Value} {base : Heap} {x qual : Str} {st : Stmt} {f c : Addr} {fd : FuncData} {M ps : List Str} {k : Nat} {sp : DSp} (F : Fun K x qual st f fd) (hcode : fd.code = .ref c) (S : FnScope M ps (defScope st)) (len : ∀ ds G R, sp ds G R → ds.length = ps.length)
    (hbody : ∀ (A : Around) (outer : List Env) (s : Shared) (H : Hp), Room k (A.deeper (envOfC qual (defScope st) s.heap.objs.size f (.ref c))) →
      ∃ t, QSs (cxOf CX0 P w K mg base M qual (defScope st) f (.ref c) A outer s H E0).nox (defBody st) t ∧ ∀ (ds : List D) (G : Gp) (R : DK), sp ds G R → t { nx := fun _ G1 => ∃ G', Sub G' G1 ∧ R .non G', rt := R } (startD M.length ds) G) : FnD P w K mg base (k + 1) f fd ps sp := by
  obtain ⟨oc, od, kV, doc, pm, an, cdv, ct, osl, rfl, lk, hcd⟩ := F.ex
  obtain rfl : cdv = .ref c := hcode
  refine fn_of lk hcd S (fun vs H Q E h => ?_) fun A outer s H vs Q E hr h => ?_
  · obtain ⟨ds, G, N, R, r1, _, h1, _⟩ := h
    rw [← r1.length]; exact len ds G R h1
  · obtain ⟨ds, G, N, R, r1, r2, h1, q⟩ := h
    obtain ⟨t, ht, hq⟩ := hbody A outer s H hr
    refine ⟨upS K t, PSs.nox ht, startD M.length ds, G, N, _, RSt.begin r1, r2, hq ds G R h1, ⟨fun σ' G' N' τ' H' h s' r => ?_, q, fun _ _ _ _ _ h => h.elim, fun _ _ _ _ _ h => h.elim⟩⟩
    obtain ⟨G2, sb, h⟩ := h
    exact q _ _ _ _ _ h (s'.trans (s'.rel.sub sb)) RD.non
end DL

set_option Elab.async false
set_option linter.all false
set_option maxRecDepth 100000
set_option maxHeartbeats 4000000
set_option autoImplicit false
namespace DL
open PySem PySem.Spec PySem.Calls PyProof.Rows PySem.SeqAt PySem.W L2
/-! ### min of a list of tuples of whole numbers -/
def ltI : List Int → List Int → Bool
  | [], [] => false
  | [], _ :: _ => true
  | _ :: _, [] => false
  | a :: l, b :: m => decide (a < b) || (decide (a = b) && ltI l m)
theorem ltI_irrefl : ∀ l : List Int, ltI l l = false
  | [] => rfl
  | a :: l => by simp [ltI, ltI_irrefl l]
theorem ltI_trans : ∀ {a b c : List Int}, ltI a b = true → ltI b c = true → ltI a c = true
  | [], [], c, h, _ => by cases h
  | [], _ :: _, [], _, h => by simp [ltI] at h
  | [], _ :: _, _ :: _, _, _ => rfl
  | _ :: _, [], _, h, _ => by simp [ltI] at h
  | _ :: _, _ :: _, [], _, h => by simp [ltI] at h
  | x :: a, y :: b, z :: c, h1, h2 => by
    simp only [ltI, Bool.or_eq_true, Bool.and_eq_true, decide_eq_true_eq] at h1 h2 ⊢
    rcases h1 with h1 | ⟨h1, h1'⟩
    · rcases h2 with h2 | ⟨h2, h2'⟩
      · exact .inl (by omega)
      · exact .inl (by omega)
    · rcases h2 with h2 | ⟨h2, h2'⟩
      · exact .inl (by omega)
      · exact .inr ⟨by omega, ltI_trans h1' h2'⟩
theorem ltI_tri : ∀ {a b : List Int}, ltI a b = false → ltI b a = false → a = b
  | [], [], _, _ => rfl
  | [], _ :: _, h, _ => by simp [ltI] at h
  | _ :: _, [], _, h => by simp [ltI] at h
  | x :: a, y :: b, h1, h2 => by
    simp only [ltI, Bool.or_eq_false_iff, Bool.and_eq_false_iff, decide_eq_false_iff_not] at h1 h2
    have e : x = y := by omega
    subst e
    rw [ltI_tri (h1.2.resolve_left fun h => h rfl) (h2.2.resolve_left fun h => h rfl)]
theorem dataLt_intT : ∀ a b : List Int, dataLt (intT a) (intT b) = ltI a b
  | [], [] => rfl
  | [], y :: b => rfl
  | x :: a, [] => rfl
  | x :: a, y :: b => by
    have ih := dataLt_intT a b
    unfold dataLt intT at ih ⊢
    rw [ltI, ← ih]
    show (decide ((1:Int) < 1) || (!decide ((1:Int) < 1) && (decide (x < y) || (!decide (y < x) && PyProof.Rows.lexLt itemOrd (keyToksAll (a.map .int)) (keyToksAll (b.map .int)))))) = _
    by_cases h1 : x < y
    · simp [h1]
    · by_cases h2 : x = y
      · subst h2; simp [keyToks]
      · have : y < x := by omega
        simp [h1, h2, this]
def minI (x : List Int) (xs : List (List Int)) : List Int := xs.foldl (fun a y => if ltI y a then y else a) x
theorem minD_intT (x : List Int) (xs : List (List Int)) : minD (intT x) (xs.map intT) = intT (minI x xs) := by
  unfold minD minI
  induction xs generalizing x with
  | nil => rfl
  | cons y xs ih =>
    rw [List.map_cons, List.foldl_cons, List.foldl_cons, dataLt_intT]
    have : (if ltI y x then intT y else intT x) = intT (if ltI y x then y else x) := by split <;> rfl
    rw [this]
    exact ih _
theorem minI_le (x : List Int) (xs : List (List Int)) : minI x xs ∈ x :: xs ∧ ∀ y ∈ x :: xs, ltI y (minI x xs) = false := by
  unfold minI
  induction xs generalizing x with
  | nil => exact ⟨List.mem_singleton.mpr rfl, fun y hy => by rw [List.mem_singleton.mp hy]; exact ltI_irrefl _⟩
  | cons z xs ih =>
    rw [List.foldl_cons]
    obtain ⟨h1, h2⟩ := ih (if ltI z x then z else x)
    refine ⟨?_, fun y hy => ?_⟩
    · rcases List.mem_cons.mp h1 with h1 | h1
      · rw [h1]
        split
        · exact List.mem_cons_of_mem _ List.mem_cons_self
        · exact List.mem_cons_self
      · exact List.mem_cons_of_mem _ (List.mem_cons_of_mem _ h1)
    · have h0 := h2 _ List.mem_cons_self
      have hz : ltI z (if ltI z x then z else x) = false ∧ ltI x (if ltI z x then z else x) = false := by
        by_cases c : ltI z x = true
        · rw [if_pos c]
          refine ⟨ltI_irrefl _, ?_⟩
          cases d : ltI x z with
          | false => rfl
          | true => have := ltI_trans c d; rw [ltI_irrefl] at this; cases this
        · rw [if_neg c]
          exact ⟨by simpa using c, ltI_irrefl _⟩
      have key : ∀ y, ltI y (if ltI z x then z else x) = false → ltI y (xs.foldl (fun a y => if ltI y a then y else a) (if ltI z x then z else x)) = false := fun y hy => by
        generalize (if ltI z x then z else x) = u at hy h0 ⊢
        generalize xs.foldl (fun a y => if ltI y a then y else a) u = m at h0 ⊢
        cases c : ltI y m with
        | false => rfl
        | true =>
          cases d : ltI m u with
          | true => rw [ltI_trans c d] at hy; cases hy
          | false =>
            rw [ltI_tri d h0] at c
            rw [hy] at c; cases c
      rcases List.mem_cons.mp hy with rfl | hy
      · exact key _ hz.2
      · rcases List.mem_cons.mp hy with rfl | hy
        · exact key _ hz.1
        · exact h2 y (List.mem_cons_of_mem _ hy)
abbrev tupI (k : List Int) : D := .tup (k.map .int)
theorem toPys_intsI : ∀ k : List Int, toPys (k.map D.int) = some (k.map PyData.int)
  | [] => rfl
  | x :: k => by simp only [List.map_cons, toPys, toPy, toPys_intsI k]
theorem toPys_tupI : ∀ ks : List (List Int), toPys (ks.map tupI) = some (ks.map intT)
  | [] => rfl
  | k :: ks => by simp only [List.map_cons, toPys, tupI, toPy, toPys_intsI k, Option.map_some, toPys_tupI ks]; rfl
theorem depthAll_8 : ∀ l : List PyData, (∀ d ∈ l, d.depth ≤ 8) → PyData.depthAll l ≤ 8
  | [], _ => Nat.zero_le _
  | d :: l, h => Nat.max_le.mpr ⟨h d List.mem_cons_self, depthAll_8 l fun x hx => h x (List.mem_cons_of_mem _ hx)⟩
theorem Dp_len {K : PySem.W.Frag} {H : Hp} : ∀ {vs : List V} {ds : List PyData}, DpAll K H vs ds → vs.length = ds.length
  | _, _, .nil => rfl
  | _, _, .cons _ t => congrArg (· + 1) (Dp_len t)
section
variable {X : Cx} {k : Nat}
def rMinT : List V → Hp → VK → Prop := fun vs H Q => ∃ (a : Addr) (xs : List V) (n : List Int) (ns : List (List Int)), vs = [.ref a] ∧ SqL X.K H a xs ∧ DpAll X.K H xs ((n :: ns).map intT) ∧ ∀ (i : Nat) (x : V), xs[i]? = some x → (n :: ns)[i]? = some (minI n ns) → Q x H
theorem cr_minT (hr : Room k X.A) (hc : X.calm = true) : CallR X (.builtin "min") (rMinT (X := X)) := by
  intro pins s σ H vs us Q I r h
  obtain ⟨a, xs, n, ns, rfl, hs, hd, q⟩ := h
  obtain ⟨its, rv, hl, _⟩ := I.list hs
  rw [Vals.ref1 r]
  obtain ⟨as, ra⟩ := Dp.readsAll I _ xs its hd rv
  have hal := alike_intT (n :: ns)
  have hun := hr.un
  refine min_list_data (x := intT n) (xs := ns.map intT) (I.ok.hd hc) hl.isList (by simpa using ra) ⟨fun x hx y hy => hal x (by simpa using hx) y (by simpa using hy), fun x hx => ?_⟩ ?_ fun i v h' tk bs hv hrd hk => ?_
  · have hx : x ∈ (n :: ns).map intT := by simpa using hx
    obtain ⟨z, _, rfl⟩ := List.mem_map.mp hx
    unfold intT
    intro e; cases e
  · have : PyData.depthAll ((n :: ns).map intT) ≤ 8 := depthAll_8 _ fun d hd => by
      obtain ⟨z, _, rfl⟩ := List.mem_map.mp hd
      exact depth_intT z
    rw [List.map_cons] at this
    omega
  · rw [minD_intT] at hrd
    obtain ⟨bs', r1, hi, _, _⟩ := readsAll_at (by simpa using ra : ReadsAll s.heap its (intT n :: ns.map intT) as) i v (by simpa using hv)
    obtain ⟨e1, _⟩ := reads_det (fun b o e _ => hk b o e) r1 hrd
    have hl2 : xs.length = (n :: ns).length := by have := rv.length; have := Dp_len hd; rw [List.length_map] at this; exact this
    have hi2 : i < (n :: ns).length := by simpa using hi
    obtain ⟨x, hx⟩ : ∃ x, xs[i]? = some x := ⟨_, List.getElem?_eq_getElem (by omega)⟩
    obtain ⟨u, hu, ru⟩ := rv.get hx
    have hv2 : its[i]? = some v := by simpa using hv
    rw [hu] at hv2
    cases hv2
    refine ⟨x, H, I.kept hk, ru, q i x hx ?_⟩
    rw [← List.map_cons, List.getD_eq_getElem?_getD, List.getElem?_map, List.getElem?_eq_getElem hi2] at e1
    have e2 : intT (minI n ns) = intT (n :: ns)[i] := e1
    rw [List.getElem?_eq_getElem hi2]
    unfold intT at e2
    injection e2 with e2
    exact congrArg some (List.map_inj_right (fun a b h => by injection h) |>.mp e2.symm)
def dMinT : DRn := fun cs G R => ∃ (x : D) (ns : List (List Int)), cs = [x] ∧ lstOf G x = some (ns.map tupI) ∧ ns ≠ [] ∧ ∀ m ∈ ns, (∀ y ∈ ns, ltI y m = false) → R (tupI m) G
theorem cd_minT (hr : Room k X.A) (hc : X.calm = true) : CallD X (.builtin "min") dMinT := up_rn (cr_minT hr hc) fun cs G N R xs H Q rd rg h q => by
  obtain ⟨x, ns, rfl, e, hne, h⟩ := h
  obtain ⟨v, r, rfl, r1, r2⟩ := rd.of_cons
  rw [r2.of_nil]
  obtain ⟨p, vs, rfl, s, rp⟩ := lstOf_ok rg r1 e
  cases ns with
  | nil => exact absurd rfl hne
  | cons n ns =>
    obtain ⟨m1, m2⟩ := minI_le n ns
    refine ⟨p, vs, n, ns, rfl, s, toPys_ok rp (toPys_tupI _), fun i x hx hi => ?_⟩
    have hd : ((n :: ns).map tupI)[i]? = some (tupI (minI n ns)) := by rw [List.getElem?_map, hi]; rfl
    obtain ⟨y, hy, ry⟩ := rp.get hd
    rw [hx] at hy
    cases hy
    exact q.at rg (h _ m1 m2) ry
end
end DL

set_option Elab.async false
set_option linter.all false
set_option maxRecDepth 100000
set_option maxHeartbeats 4000000
set_option autoImplicit false
namespace K64
open PySem PySem.Spec PyProof.Rows L2 DL
local macro_rules | `(tactic| walk_at "d") => `(tactic| dsimp only [dSeq, dNext, dIfS, dRet, dRetN, dAsg, dName, dVar, dC, dOp, dUn, dChain, dB, dAnd, dOr, dNot, dAndV, dOrV, dNotV, dIf, dNil, dCons, dTup, dLst, newL, dCallB, dCall, dCallK, dDrop, dAug, dAugS, dSub, dM, dM0, dSlice, dNoPart, dPart, dLc, dYes, dFor, dIter, dRng1, dEnum, dZipM, srcD, dStar, dInK, dIxK, dLenSet, dRev,
  startD, wipeD, setAll, dNames, List.map_cons, List.map_nil, List.length_cons, List.length_nil, List.replicate, List.cons_append, List.nil_append, List.append_nil, List.getElem?_cons_zero, List.getElem?_cons_succ, List.set_cons_zero, List.set_cons_succ, List.map, Nat.zero_add, Nat.reduceAdd, Nat.reduceSub, Nat.sub_self, Nat.succ_sub_succ_eq_sub])
local macro_rules | `(tactic| walk_at "o") => `(tactic| simp only [dAdd_ii, dAdd_ss, dAdd_tt, dAdd_ll, dMinus_ii, dMul_ii, dMod_ii, dFdiv_ii, dPow_ii, dShl_ii, dNeg_i, dIadd_ii, dLt_ii, dLe_ii, dGt_ii, dGe_ii, dEq_ii, dNe_ii, dEq_ss, dNe_ss, dEq_bb, dNe_bb, dIs_n, dIsNot_n, dMax2_ii, dMin2_ii, dTuple_t, dTuple_l, dList_t, dList_l, dIx_t, dIx_l, dIx_s, dSl_t, dSl_l, dSl_s, newL_f, len_tup, len_lst])
local macro_rules | `(tactic| walk_at "w") => `(tactic| dsimp only [x_var, x_c, x_op, x_un, x_b, x_and, x_or, x_not, x_chain, x_andV, x_orV, x_notV, x_if, x_nil, x_cons, x_tup, x_lst0, x_lst1, x_callB, x_call, x_callK, x_next, x_seq, x_break, x_cont, x_drop, x_ret, x_ifS, x_asg, x_name, x_names, x_sub, x_aug, x_augS, x_for, x_lc0, x_lc1, x_yes, x_noPart, x_part, x_slice, x_iter, it_t, it_l, it_n, it_s, it_r, x_rng1, x_enum, x_rev, x_m, x_m0, x_mX, x_zip, x_star_t, x_star_l, x_lenSet, x_forgo0, x_lcgo0, x_while, x_par, x_sortK,
  br_t, br_f, isB_bl, isI_int, isN_some, slo_some, atL_lst, ix_t, ix_l, ix_n,
  dAdd_ii, dAdd_ss, dAdd_tt, dAdd_ll, dMinus_ii, dMul_ii, dMod_ii, dFdiv_ii, dPow_ii, dShl_ii, dNeg_i, dIadd_ii, dLt_ii, dLe_ii, dGt_ii, dGe_ii, ltE_ii, ltE_ss, srcD, isi_i, isi_s, isi_b, isi_n, isi_t, isi_nt, isi_l, isi2_i, isi2_s, isi2_b, isi2_n, isi2_t, isi2_nt, isi2_l, inon_n, inon_i, inon_s, inon_b, inon_t, inon_l, inon_r, dEq_ii, dNe_ii, dEq_ss, dNe_ss, dEq_bb, dNe_bb, dIs_n, dIsNot_n, dMax2_ii, dMin2_ii, dTuple_t, dTuple_l, dList_t, dList_l, dSl_t, dSl_l, dSl_s, newL_f, newL_t, app_r, int_b, int_i, strI_i, strX_i, strX_s,
  startD, wipeD, setAll, permL, List.filterMap, List.map_cons, List.map_nil, List.length_cons, List.length_nil, List.replicate, List.cons_append, List.nil_append, List.append_nil, List.getElem?_cons_zero, List.getElem?_cons_succ, List.set_cons_zero, List.set_cons_succ, List.map, Nat.zero_add, Nat.reduceAdd, Nat.reduceSub, Nat.sub_self, Nat.succ_sub_succ_eq_sub])
local macro_rules | `(tactic| walk_at "v") => `(tactic| simp only [ofString_inj, String.reduceEq, at_0, at_1, at_2, at_3, at_4, at_5, isN_some, isBB_bl, isB_bl, br_t, br_f, br_not, br_and, br_or, br_dec, ix_r, len_tup, len_lst, len_nt, ltE_key, gup_gup, gup_same, starD_one, cut1, cut2, kt1, kt2, kt3, kt4, kt5, kt6, isTy, String.reduceBEq, Bool.or_false, Bool.false_or, Bool.true_or, Bool.or_true, Bool.and_false, Bool.false_and, Bool.true_and, Bool.and_true, Bool.not_true, Bool.not_false, decide_true, decide_false, eq_self_iff_true, Bool.false_eq_true, Int.reduceAdd, Int.add_zero, if_true, if_false, true_and, and_true])
local macro_rules | `(tactic| walk_at "side") => `(tactic| first | with_reducible assumption | omega | exact mty_up | exact True.intro | (simp only [List.mem_cons, ofString_inj, String.reduceEq, true_or, or_true, List.length_map]; done) | with_reducible exact (rfl : (_ : Nat) = _) | exact (rfl : (_ : Option String) = _) | (refine small_line ?_; omega) | (walk_at "ll"; first | omega | (refine small_line ?_; omega) | fail) | (exact log_small (by omega)) | fail)
local macro_rules | `(tactic| walk_at "x") => `(tactic| fail)
local macro_rules | `(tactic| walk_at "go") => `(tactic| repeat' (first | dsimp only [x_var, x_c, x_op, x_un, x_b, x_and, x_or, x_not, x_chain, x_andV, x_orV, x_notV, x_if, x_nil, x_cons, x_tup, x_lst0, x_lst1, x_callB, x_call, x_callK, x_next, x_seq, x_break, x_cont, x_drop, x_ret, x_ifS, x_asg, x_name, x_names, x_sub, x_aug, x_augS, x_for, x_lc0, x_lc1, x_yes, x_noPart, x_part, x_slice, x_iter, it_t, it_l, it_n, it_s, it_r, x_rng1, x_enum, x_rev, x_m, x_m0, x_mX, x_zip, x_star_t, x_star_l, x_lenSet, x_forgo0, x_lcgo0, x_while, x_par, x_sortK, br_t, br_f, isB_bl, isI_int, isN_some, slo_some, atL_lst, ix_t, ix_l, ix_n, dAdd_ii, dAdd_ss, dAdd_tt, dAdd_ll, dMinus_ii, dMul_ii, dMod_ii, dFdiv_ii, dPow_ii, dShl_ii, dNeg_i, dIadd_ii, dLt_ii, dLe_ii, dGt_ii, dGe_ii, ltE_ii, ltE_ss, srcD, isi_i, isi_s, isi_b, isi_n, isi_t, isi_nt, isi_l, isi2_i, isi2_s, isi2_b, isi2_n, isi2_t, isi2_nt, isi2_l, inon_n, inon_i, inon_s, inon_b, inon_t, inon_l, inon_r, dEq_ii, dNe_ii, dEq_ss, dNe_ss, dEq_bb, dNe_bb, dIs_n, dIsNot_n, dMax2_ii, dMin2_ii, dTuple_t, dTuple_l, dList_t, dList_l, dSl_t, dSl_l, dSl_s, newL_f, newL_t, app_r, int_b, int_i, strI_i, strX_i, strX_s, startD, wipeD, setAll, permL, List.filterMap, List.map_cons, List.map_nil, List.length_cons, List.length_nil, List.replicate, List.cons_append, List.nil_append, List.append_nil, List.getElem?_cons_zero, List.getElem?_cons_succ, List.set_cons_zero, List.set_cons_succ, List.map, Nat.zero_add, Nat.reduceAdd, Nat.reduceSub, Nat.sub_self, Nat.succ_sub_succ_eq_sub] | simp only [ofString_inj, String.reduceEq, at_0, at_1, at_2, at_3, at_4, at_5, isN_some, isBB_bl, isB_bl, br_t, br_f, br_not, br_and, br_or, br_dec, ix_r, len_tup, len_lst, len_nt, ltE_key, gup_gup, gup_same, starD_one, cut1, cut2, kt1, kt2, kt3, kt4, kt5, kt6, isTy, String.reduceBEq, Bool.or_false, Bool.false_or, Bool.true_or, Bool.or_true, Bool.and_false, Bool.false_and, Bool.true_and, Bool.and_true, Bool.not_true, Bool.not_false, decide_true, decide_false, eq_self_iff_true, Bool.false_eq_true, Int.reduceAdd, Int.add_zero, if_true, if_false, true_and, and_true] | walk_at "x" | with_reducible refine kont_go ?_ | with_reducible refine rt_sub (by assumption) ?_ | with_reducible refine rt_lst (by assumption) ?_ | with_reducible refine rt_drop (by assumption) ?_ | with_reducible refine rt_keep (by assumption) (by assumption) ?_ | with_reducible refine rt_same ?_ | (refine fun (p : Addr) (_ : _ = none) => ?_) | refine join_gor gup_same rfl (by walk_at "side") ?_ | with_reducible refine lc_cons ?_ | with_reducible refine for_cons ?_ | refine join_go rfl (by walk_at "side") ?_ | refine And.intro (by first | with_reducible assumption | omega | exact mty_up | exact True.intro | (simp only [List.mem_cons, ofString_inj, String.reduceEq, true_or, or_true, List.length_map]; done) | with_reducible exact (rfl : (_ : Nat) = _) | exact (rfl : (_ : Option String) = _) | (refine small_line ?_; omega) | (walk_at "ll"; first | omega | (refine small_line ?_; omega) | fail) | (exact log_small (by omega)) | fail) ?_ | fail))
def topS (i : Nat) : Stmt := PySem.Challenge.pw_steploft_k64_ways_that_are_not_safe.main.body.getD i (.Pass ⟨0, 0, 0, 0⟩)
abbrev s_nexts_of : Stmt := topS 1
abbrev N_nexts_of : List Str := ["further"]
theorem sc_nexts_of : FnScope N_nexts_of ["further"] (defScope s_nexts_of) := ⟨rfl, rfl, rfl, by decide +kernel, rfl, by decide +kernel, by decide +kernel⟩
abbrev s_may_trap : Stmt := topS 3
abbrev N_may_trap : List Str := ["orders", "order"]
theorem sc_may_trap : FnScope N_may_trap ["orders"] (defScope s_may_trap) := ⟨rfl, rfl, rfl, by decide +kernel, rfl, by decide +kernel, by decide +kernel⟩
abbrev s_is_seen : Stmt := topS 4
abbrev N_is_seen : List Str := ["orders", "order"]
theorem sc_is_seen : FnScope N_is_seen ["orders"] (defScope s_is_seen) := ⟨rfl, rfl, rfl, by decide +kernel, rfl, by decide +kernel, by decide +kernel⟩
abbrev s_shows : Stmt := topS 5
abbrev N_shows : List Str := ["program", "number", "seen", "left", "known", "at", "some", "orders", "further", "one"]
theorem sc_shows : FnScope N_shows ["program", "number", "seen"] (defScope s_shows) := ⟨rfl, rfl, rfl, by decide +kernel, rfl, by decide +kernel, by decide +kernel⟩
abbrev s_unsafe_way : Stmt := topS 6
abbrev N_unsafe_way : List Str := ["machine", "program", "way", "number", "seen", "orders", "further", "one"]
theorem sc_unsafe_way : FnScope N_unsafe_way ["machine", "program"] (defScope s_unsafe_way) := ⟨rfl, rfl, rfl, by decide +kernel, rfl, by decide +kernel, by decide +kernel⟩
abbrev s__law_bag : Stmt := topS 8
abbrev N__law_bag : List Str := ["cell", "k"]
theorem sc__law_bag : FnScope N__law_bag ["cell", "k"] (defScope s__law_bag) := ⟨rfl, rfl, rfl, by decide +kernel, rfl, by decide +kernel, by decide +kernel⟩
abbrev s__law_draw : Stmt := topS 9
abbrev N__law_draw : List Str := ["bag", "many", "digit", "one"]
theorem sc__law_draw : FnScope N__law_draw ["bag", "many"] (defScope s__law_draw) := ⟨rfl, rfl, rfl, by decide +kernel, rfl, by decide +kernel, by decide +kernel⟩
abbrev s__law_same : Stmt := topS 10
abbrev N__law_same : List Str := ["found", "due", "one", "other"]
theorem sc__law_same : FnScope N__law_same ["found", "due"] (defScope s__law_same) := ⟨rfl, rfl, rfl, by decide +kernel, rfl, by decide +kernel, by decide +kernel⟩
abbrev s__law_machine : Stmt := topS 11
abbrev N__law_machine : List Str := ["bag", "bits", "names", "many", "start", "registers", "hidden", "cells", "k"]
theorem sc__law_machine : FnScope N__law_machine ["bag"] (defScope s__law_machine) := ⟨rfl, rfl, rfl, by decide +kernel, rfl, by decide +kernel, by decide +kernel⟩
abbrev s__law_place : Stmt := topS 12
abbrev N__law_place : List Str := ["machine", "bag"]
theorem sc__law_place : FnScope N__law_place ["machine", "bag"] (defScope s__law_place) := ⟨rfl, rfl, rfl, by decide +kernel, rfl, by decide +kernel, by decide +kernel⟩
abbrev s__law_order : Stmt := topS 13
abbrev N__law_order : List Str := ["machine", "bag", "way", "one", "two", "three"]
theorem sc__law_order : FnScope N__law_order ["machine", "bag"] (defScope s__law_order) := ⟨rfl, rfl, rfl, by decide +kernel, rfl, by decide +kernel, by decide +kernel⟩
abbrev s__law_text : Stmt := topS 14
abbrev N__law_text : List Str := ["order", "words", "part"]
theorem sc__law_text : FnScope N__law_text ["order"] (defScope s__law_text) := ⟨rfl, rfl, rfl, by decide +kernel, rfl, by decide +kernel, by decide +kernel⟩
abbrev s__law_to : Stmt := topS 15
abbrev N__law_to : List Str := ["order"]
theorem sc__law_to : FnScope N__law_to ["order"] (defScope s__law_to) := ⟨rfl, rfl, rfl, by decide +kernel, rfl, by decide +kernel, by decide +kernel⟩
abbrev s__law_row : Stmt := topS 16
abbrev N__law_row : List Str := ["machine", "bag", "most", "found", "counts", "unit", "k", "order", "kinds", "one"]
theorem sc__law_row : FnScope N__law_row ["machine", "bag", "most"] (defScope s__law_row) := ⟨rfl, rfl, rfl, by decide +kernel, rfl, by decide +kernel, by decide +kernel⟩
abbrev s__law_next : Stmt := topS 17
abbrev N__law_next : List Str := ["machine", "bag", "at", "many", "one"]
theorem sc__law_next : FnScope N__law_next ["machine", "bag", "at", "many"] (defScope s__law_next) := ⟨rfl, rfl, rfl, by decide +kernel, rfl, by decide +kernel, by decide +kernel⟩
abbrev s__law_ways : Stmt := topS 18
abbrev N__law_ways : List Str := ["program", "found", "done", "way", "further", "nexts", "number"]
theorem sc__law_ways : FnScope N__law_ways ["program"] (defScope s__law_ways) := ⟨rfl, rfl, rfl, by decide +kernel, rfl, by decide +kernel, by decide +kernel⟩
abbrev s__law_due : Stmt := topS 19
abbrev N__law_due : List Str := ["program", "shown", "way", "seen", "at", "orders", "tos", "order", "to"]
theorem sc__law_due : FnScope N__law_due ["program"] (defScope s__law_due) := ⟨rfl, rfl, rfl, by decide +kernel, rfl, by decide +kernel, by decide +kernel⟩
abbrev s_law : Stmt := topS 20
abbrev N_law : List Str := ["script", "cells", "k", "bag", "machine", "many", "lined", "at", "orders"]
theorem sc_law : FnScope N_law ["script"] (defScope s_law) := ⟨rfl, rfl, rfl, by decide +kernel, rfl, by decide +kernel, by decide +kernel⟩
theorem ll_0 : (Str.ofString "steploft.ways").length = 13 := by rw [len_lit]; rfl
theorem ll_1 : (Str.ofString "steploft.looks").length = 14 := by rw [len_lit]; rfl
theorem ll_2 : (Str.ofString "law_steploft_k64_ways_that_are_not_safe").length = 39 := by rw [len_lit]; rfl
theorem ll_3 : (Str.ofString "go").length = 2 := by rw [len_lit]; rfl
theorem ll_4 : (Str.ofString "test").length = 4 := by rw [len_lit]; rfl
theorem ll_5 : (Str.ofString "a").length = 1 := by rw [len_lit]; rfl
theorem ll_6 : (Str.ofString "b").length = 1 := by rw [len_lit]; rfl
theorem ll_7 : (Str.ofString "cc").length = 2 := by rw [len_lit]; rfl
theorem ll_8 : (Str.ofString "h").length = 1 := by rw [len_lit]; rfl
theorem ll_9 : (Str.ofString "nop").length = 3 := by rw [len_lit]; rfl
theorem ll_10 : (Str.ofString "abcdefgh").length = 8 := by rw [len_lit]; rfl
theorem ll_11 : (Str.ofString "reg").length = 3 := by rw [len_lit]; rfl
theorem ll_12 : (Str.ofString "store").length = 5 := by rw [len_lit]; rfl
theorem ll_13 : (Str.ofString "alu").length = 3 := by rw [len_lit]; rfl
theorem ll_14 : (Str.ofString "move").length = 4 := by rw [len_lit]; rfl
theorem ll_15 : (Str.ofString "memory").length = 6 := by rw [len_lit]; rfl
theorem ll_16 : (Str.ofString "put").length = 3 := by rw [len_lit]; rfl
theorem ll_17 : (Str.ofString "load").length = 4 := by rw [len_lit]; rfl
theorem ll_18 : (Str.ofString "hid").length = 3 := by rw [len_lit]; rfl
theorem ll_19 : (Str.ofString " ").length = 1 := by rw [len_lit]; rfl
theorem ll_20 : (Str.ofString "end").length = 3 := by rw [len_lit]; rfl
theorem ll_21 : (Str.ofString "add").length = 3 := by rw [len_lit]; rfl
theorem ll_22 : (Str.ofString "sub").length = 3 := by rw [len_lit]; rfl
theorem ll_23 : (Str.ofString "and").length = 3 := by rw [len_lit]; rfl
theorem ll_24 : (Str.ofString "or").length = 2 := by rw [len_lit]; rfl
theorem ll_25 : (Str.ofString "xor").length = 3 := by rw [len_lit]; rfl
theorem ll_26 : (Str.ofString "less").length = 4 := by rw [len_lit]; rfl
theorem ll_27 : (Str.ofString "same").length = 4 := by rw [len_lit]; rfl
structure Ad where
  f_nexts_of : Addr
  fd_nexts_of : FuncData
  f_may_trap : Addr
  fd_may_trap : FuncData
  f_is_seen : Addr
  fd_is_seen : FuncData
  f_shows : Addr
  fd_shows : FuncData
  f_unsafe_way : Addr
  fd_unsafe_way : FuncData
  f__law_bag : Addr
  fd__law_bag : FuncData
  f__law_draw : Addr
  fd__law_draw : FuncData
  f__law_same : Addr
  fd__law_same : FuncData
  f__law_machine : Addr
  fd__law_machine : FuncData
  f__law_place : Addr
  fd__law_place : FuncData
  f__law_order : Addr
  fd__law_order : FuncData
  f__law_text : Addr
  fd__law_text : FuncData
  f__law_to : Addr
  fd__law_to : FuncData
  f__law_row : Addr
  fd__law_row : FuncData
  f__law_next : Addr
  fd__law_next : FuncData
  f__law_ways : Addr
  fd__law_ways : FuncData
  f__law_due : Addr
  fd__law_due : FuncData
  f_law : Addr
  fd_law : FuncData
  cT__law_row : Addr
  PT__law_row : Addr
structure Tx (w : World) (K : PySem.W.Frag) (mg : Str → Option Value) (a : Ad) : Prop where
  F_nexts_of : Fun K "nexts_of" "nexts_of" s_nexts_of a.f_nexts_of a.fd_nexts_of
  b_nexts_of : Binds K a.fd_nexts_of ["further"] []
  g_nexts_of : mg "nexts_of" = some (.ref a.f_nexts_of)
  F_may_trap : Fun K "may_trap" "may_trap" s_may_trap a.f_may_trap a.fd_may_trap
  b_may_trap : Binds K a.fd_may_trap ["orders"] []
  g_may_trap : mg "may_trap" = some (.ref a.f_may_trap)
  F_is_seen : Fun K "is_seen" "is_seen" s_is_seen a.f_is_seen a.fd_is_seen
  b_is_seen : Binds K a.fd_is_seen ["orders"] []
  g_is_seen : mg "is_seen" = some (.ref a.f_is_seen)
  F_shows : Fun K "shows" "shows" s_shows a.f_shows a.fd_shows
  b_shows : Binds K a.fd_shows ["program", "number", "seen"] []
  g_shows : mg "shows" = some (.ref a.f_shows)
  F_unsafe_way : Fun K "unsafe_way" "unsafe_way" s_unsafe_way a.f_unsafe_way a.fd_unsafe_way
  b_unsafe_way : Binds K a.fd_unsafe_way ["machine", "program"] []
  g_unsafe_way : mg "unsafe_way" = some (.ref a.f_unsafe_way)
  F__law_bag : Fun K "_law_bag" "_law_bag" s__law_bag a.f__law_bag a.fd__law_bag
  b__law_bag : Binds K a.fd__law_bag ["cell", "k"] []
  g__law_bag : mg "_law_bag" = some (.ref a.f__law_bag)
  F__law_draw : Fun K "_law_draw" "_law_draw" s__law_draw a.f__law_draw a.fd__law_draw
  b__law_draw : Binds K a.fd__law_draw ["bag", "many"] []
  g__law_draw : mg "_law_draw" = some (.ref a.f__law_draw)
  F__law_same : Fun K "_law_same" "_law_same" s__law_same a.f__law_same a.fd__law_same
  b__law_same : Binds K a.fd__law_same ["found", "due"] []
  g__law_same : mg "_law_same" = some (.ref a.f__law_same)
  F__law_machine : Fun K "_law_machine" "_law_machine" s__law_machine a.f__law_machine a.fd__law_machine
  b__law_machine : Binds K a.fd__law_machine ["bag"] []
  g__law_machine : mg "_law_machine" = some (.ref a.f__law_machine)
  F__law_place : Fun K "_law_place" "_law_place" s__law_place a.f__law_place a.fd__law_place
  b__law_place : Binds K a.fd__law_place ["machine", "bag"] []
  g__law_place : mg "_law_place" = some (.ref a.f__law_place)
  F__law_order : Fun K "_law_order" "_law_order" s__law_order a.f__law_order a.fd__law_order
  b__law_order : Binds K a.fd__law_order ["machine", "bag"] []
  g__law_order : mg "_law_order" = some (.ref a.f__law_order)
  F__law_text : Fun K "_law_text" "_law_text" s__law_text a.f__law_text a.fd__law_text
  b__law_text : Binds K a.fd__law_text ["order"] []
  g__law_text : mg "_law_text" = some (.ref a.f__law_text)
  F__law_to : Fun K "_law_to" "_law_to" s__law_to a.f__law_to a.fd__law_to
  b__law_to : Binds K a.fd__law_to ["order"] []
  g__law_to : mg "_law_to" = some (.ref a.f__law_to)
  F__law_row : Fun K "_law_row" "_law_row" s__law_row a.f__law_row a.fd__law_row
  b__law_row : Binds K a.fd__law_row ["machine", "bag", "most"] []
  kc__law_row : a.fd__law_row.code = .ref a.cT__law_row
  g__law_row : mg "_law_row" = some (.ref a.f__law_row)
  F__law_next : Fun K "_law_next" "_law_next" s__law_next a.f__law_next a.fd__law_next
  b__law_next : Binds K a.fd__law_next ["machine", "bag", "at", "many"] []
  g__law_next : mg "_law_next" = some (.ref a.f__law_next)
  F__law_ways : Fun K "_law_ways" "_law_ways" s__law_ways a.f__law_ways a.fd__law_ways
  b__law_ways : Binds K a.fd__law_ways ["program"] []
  g__law_ways : mg "_law_ways" = some (.ref a.f__law_ways)
  F__law_due : Fun K "_law_due" "_law_due" s__law_due a.f__law_due a.fd__law_due
  b__law_due : Binds K a.fd__law_due ["program"] []
  g__law_due : mg "_law_due" = some (.ref a.f__law_due)
  F_law : Fun K "law" "law" s_law a.f_law a.fd_law
  b_law : Binds K a.fd_law ["script"] []
  g_law : mg "law" = some (.ref a.f_law)
  n_all : mg "all" = none
  n_any : mg "any" = none
  n_bool : mg "bool" = none
  n_int : mg "int" = none
  n_isinstance : mg "isinstance" = none
  n_len : mg "len" = none
  n_list : mg "list" = none
  n_min : mg "min" = none
  n_range : mg "range" = none
  n_sorted : mg "sorted" = none
  n_str : mg "str" = none
  n_tuple : mg "tuple" = none
  n_zip : mg "zip" = none
structure TxB (w : World) (K : PySem.W.Frag) (mg : Str → Option Value) (base : Heap) (a : Ad) : Prop extends Tx w K mg a where
  tb__law_row : LamX.TabB base mg a.cT__law_row a.PT__law_row
def qn__law_row : Str := (Str.ofString "_law_row" ++ ".<locals>.") ++ "<lambda>"
def tabsL (a : Ad) : List (Addr × Addr) := [(a.cT__law_row, a.PT__law_row)]
def tabsQ (a : Ad) : List (Addr × Str) := [(a.PT__law_row, qn__law_row)]
local macro_rules | `(tactic| walk_at "ll") => `(tactic| simp only [List.length_map, List.length_append, List.length_cons, List.length_nil, List.map_cons, List.map_nil, List.sum_cons, List.sum_nil, len_app, rng_length, ll_0, ll_1, ll_2, ll_3, ll_4, ll_5, ll_6, ll_7, ll_8, ll_9, ll_10, ll_11, ll_12, ll_13, ll_14, ll_15, ll_16, ll_17, ll_18, ll_19, ll_20, ll_21, ll_22, ll_23, ll_24, ll_25, ll_26, ll_27])
/-! ### places and orders -/
inductive Plc where
  | reg (x : Str) | hid (k : Nat)
deriving DecidableEq
inductive Ord where
  | alu (op : Str) (to a b : Plc) | move (to a : Plc) | put (to : Plc) (w : Nat) | load (to a : Plc) | store (a b : Plc)
deriving DecidableEq
def Plc.d : Plc → D
  | .reg x => .tup [.str "reg", .str x] | .hid k => .tup [.str "hid", .int k]
def Ord.d : Ord → D
  | .alu op to a b => .tup [.str "alu", .str op, to.d, a.d, b.d]
  | .move to a => .tup [.str "move", to.d, a.d]
  | .put to w => .tup [.str "put", to.d, .int w]
  | .load to a => .tup [.str "load", to.d, a.d]
  | .store a b => .tup [.str "store", a.d, b.d]
def Plc.txt : Plc → Str
  | .reg x => x | .hid k => "h" ++ toString (k : Int)
def Ord.txt : Ord → Str
  | .alu op to a b => Txt.join " " ["alu", op, to.txt, a.txt, b.txt]
  | .move to a => Txt.join " " ["move", to.txt, a.txt]
  | .put to w => Txt.join " " ["put", to.txt, toString (w : Int)]
  | .load to a => Txt.join " " ["load", to.txt, a.txt]
  | .store a b => Txt.join " " ["store", a.txt, b.txt]
def Ord.kix : Ord → Int
  | .alu _ _ _ _ => 0 | .move _ _ => 1 | .put _ _ => 2 | .load _ _ => 3 | .store _ _ => 4
def Ord.key (o : Ord) : Int × Str := (o.kix, o.txt)
def Plc.small : Plc → Prop
  | .reg x => x.length ≤ 100 | .hid k => k ≤ 1000
def Ord.small : Ord → Prop
  | .alu op to a b => op.length ≤ 100 ∧ to.small ∧ a.small ∧ b.small
  | .move to a => to.small ∧ a.small
  | .put to w => to.small ∧ w ≤ 1000
  | .load to a => to.small ∧ a.small
  | .store to a => to.small ∧ a.small
theorem isi_plc (p : Plc) {G : Gp} {R : DK} : dIsiX [p.d, .ty "tuple"] G R = R (.bl true) G := by
  cases p <;> exact propext ⟨fun h => h.2, fun h => ⟨by decide, h⟩⟩
theorem Plc.txt_len {p : Plc} (h : p.small) : p.txt.length ≤ 100 := by
  cases p with
  | reg x => exact h
  | hid k =>
    have := len_num (k := k) h
    show ((("h" : String) : Str) ++ _).length ≤ 100
    rw [len_app, len_lit]
    have : ("h" : String).length = 1 := rfl
    omega
theorem lc_typ {α : Type} {g : DG} {te : DE} {σ : Sd} {gd : Gp → Prop} {G : Gp} (d f : α → D) (hg : gd G) : ∀ (xs : List α) (acc : List D), (∀ x ∈ xs, ∀ Q : DK, Q (f x) G → g (d x) σ G fun σ2 G2 => te σ2 G2 Q) → ∀ Q : List D → Gp → Prop, Q (acc ++ xs.map f) G → dLcGo g dYes te gd σ (xs.map d) acc G Q
  | [], acc, _, Q, q => ⟨hg, by simpa using q⟩
  | x :: xs, acc, h, Q, q => ⟨hg, h x List.mem_cons_self _ (lc_typ d f hg xs (acc ++ [f x]) (fun y hy => h y (List.mem_cons_of_mem _ hy)) Q (by simpa using q))⟩
/-! ### numbers' sizes -/
theorem bits_le {x : Int} {n : Nat} (h : x.natAbs < 2 ^ n) (h0 : 0 < n) : Builtin.Int.intBits x ≤ n := by
  unfold Builtin.Int.intBits
  split
  · omega
  · have := PySem.Flt.log2_lt_of h0 h
    omega
theorem pow_ok {x : Int} {n : Nat} {k : Int} (h : x.natAbs < 2 ^ n) (h0 : 0 < n) (hk : 0 ≤ k) (hk2 : k ≤ 100) (hn : n ≤ 10000) : CPowX x k := by
  refine ⟨hk, ?_⟩
  have h1 := bits_le h h0
  have h2 : (Builtin.Int.intBits x : Int) * k ≤ 10000 * 100 := Int.mul_le_mul (by omega) hk2 hk (by omega)
  omega
theorem mul_ok {x y : Int} (h1 : -(2 ^ 64) < x) (h2 : x < 2 ^ 64) : IntMulOk x y := .of_left (intBits_le_64 h1 h2)
theorem div_ok {x y : Int} (h1 : 0 < y) (h2 : y < 2 ^ 64) : CDivW x y := ⟨h1, Nat.lt_of_lt_of_le (PySem.Flt.log2_lt_of (k := 64) (by decide) (by omega)) (by decide)⟩
/-! ### draws -/
def BagO (n : Nat) (o : GO) : Prop := ∃ a b : Int, o = .lst [.int a, .int b] ∧ 0 ≤ a ∧ 0 ≤ b ∧ b ≤ n
theorem BagO.mono {n m : Nat} {o : GO} (h : BagO n o) (l : n ≤ m) : BagO m o := by
  obtain ⟨a, b, e, h1, h2, h3⟩ := h
  exact ⟨a, b, e, h1, h2, by omega⟩
def sp__law_bag : DSp := fun ds G R => match ds with
  | [.int x, .int k] => 0 ≤ k ∧ k ≤ 100 ∧ ∀ p o, G p = none → BagO 5000 o → R (.ref p) (gup G p o)
  | _ => False
theorem ok__law_bag {P : Program} {w : World} {K : PySem.W.Frag} {mg : Str → Option Value} {base : Heap} {a : Ad} (T : TxB w K mg base a) : FnD P w K mg base 1 a.f__law_bag a.fd__law_bag ["cell", "k"] sp__law_bag := by
  refine fun_okD T.F__law_bag sc__law_bag (fun ds G R h => ?_) (fun cdv A outer s H hr => ⟨_, (qss_cons (qs_if (qt_cmp (od_ltE (room100 hr)) (qv 0) qe_int (nomark _))
      (qss_one (qs_ret (qe_lst true (qa_cons (qe_un od_neg (qv 0)) (qa_cons (qe_op (od_add false) (qe_op od_mul qe_int (qv 1)) qe_int) qa_nil)))))
      qss_nil)
      (qss_one (qs_ret (qe_lst true (qa_cons (qv 0) (qa_cons (qe_op od_mul qe_int (qv 1)) qa_nil)))))), fun ds G R h => ?_⟩)
  · unfold sp__law_bag at h; split at h; rfl; exact h.elim
  · unfold sp__law_bag at h
    split at h
    · rename_i x k
      obtain ⟨h0, h1, h⟩ := h
      walk_at "go"
      split
      · walk_at "go"
        refine ⟨mul_ok (by decide) (by decide), ?_⟩
        refine ⟨small_line (by decide), fun p np => rt_same (h p _ np ⟨_, _, rfl, by omega, by omega, by omega⟩)⟩
      · walk_at "go"
        refine ⟨mul_ok (by decide) (by decide), ?_⟩
        refine ⟨small_line (by decide), fun p np => rt_same (h p _ np ⟨_, _, rfl, by omega, by omega, by omega⟩)⟩
    · exact h.elim
def sp__law_draw : DSp := fun ds G R => match ds with
  | [.ref s, .int m] => ∃ n o, G s = some o ∧ BagO n o ∧ n ≤ 1000000 ∧ 1 ≤ m ∧ m < 2 ^ 64 ∧ ∀ (r : Nat) o', (r : Int) < m → BagO (n + 1) o' → R (.int r) (gup G s o')
  | _ => False
theorem ok__law_draw {P : Program} {w : World} {K : PySem.W.Frag} {mg : Str → Option Value} {base : Heap} {a : Ad} (T : TxB w K mg base a) : FnD P w K mg base 1 a.f__law_draw a.fd__law_draw ["bag", "many"] sp__law_draw := by
  refine fun_okD T.F__law_draw sc__law_draw (fun ds G R h => ?_) (fun cdv A outer s H hr => ⟨_, (qss_cons (qs_augS (qv 0) qe_int gd_ix qe_int od_iadd sd_set)
      (qss_cons (qs_if (qt_cmp od_ge (qe_ix xd_ix (qv 0) qe_int (fun _ _ => rfl)) (qe_op od_pow qe_int qe_int) (nomark _))
      (qss_cons (qs_set (i := 2) sc__law_draw.nd rfl (.inl rfl) (qe_op od_mod (qe_ix xd_ix (qv 0) qe_int (fun _ _ => rfl)) (qv 1)))
      (qss_cons (qs_asg (qe_op od_fdiv (qe_ix xd_ix (qv 0) qe_int (fun _ _ => rfl)) (qv 1)) (qg_sub (qv 0) qe_int sd_set))
      (qss_one (qs_ret (qv 2)))))
      qss_nil)
      (qss_cons (qs_set (i := 3) sc__law_draw.nd rfl (.inl rfl) (qe_op od_mod (qe_op (od_add false) (qe_op (od_add false) (qe_op od_mod (qe_ix xd_ix (qv 0) qe_int (fun _ _ => rfl)) qe_int) (qe_op od_mul qe_int (qe_ix xd_ix (qv 0) qe_int (fun _ _ => rfl)))) qe_int) qe_int))
      (qss_cons (qs_set (i := 3) sc__law_draw.nd rfl (.inl rfl) (qe_op od_mod (qe_op od_mul (qv 3) (qv 3)) qe_int))
      (qss_cons (qs_set (i := 3) sc__law_draw.nd rfl (.inl rfl) (qe_op od_mod (qe_op (od_add false) (qv 3) (qe_op od_mul qe_int (qe_ix xd_ix (qv 0) qe_int (fun _ _ => rfl)))) qe_int))
      (qss_cons (qs_set (i := 3) sc__law_draw.nd rfl (.inl rfl) (qe_op od_mod (qe_op od_mul (qv 3) (qv 3)) qe_int))
      (qss_one (qs_ret (qe_op od_mod (qe_op od_fdiv (qv 3) qe_int) (qv 1)))))))))), fun ds G R h => ?_⟩)
  · unfold sp__law_draw at h; split at h; rfl; exact h.elim
  · unfold sp__law_draw at h
    split at h
    · rename_i s m
      obtain ⟨n, o, e, ⟨a, b, rfl, ha, hb, hb2⟩, hn, hm, hm2, h⟩ := h
      walk_at "d"
      have at1 : atI [D.int a, D.int b] 1 = some (.int b) := rfl
      have at1' : atI [D.int a, D.int (b + 1)] 1 = some (.int (b + 1)) := rfl
      have at0 : atI [D.int a, D.int (b + 1)] 0 = some (.int a) := rfl
      have ix1 : ixN [D.int a, D.int b].length 1 = some 1 := rfl
      have ix0 : ixN [D.int a, D.int (b + 1)].length 0 = some 0 := rfl
      have p10 : ∀ k : Int, 0 ≤ k → k ≤ 100 → CPowX 10 k := fun k h0 h1 => pow_ok (n := 4) (by decide) (by decide) h0 h1 (by decide)
      simp only [dGetI, dIadd, dIx, seqOf, lstOf, e, at1, dSetI, ix1, List.set_cons_zero, List.set_cons_succ, gup_same, at0, dGe, dOrd, dPow, dI]
      refine ⟨p10 _ (by decide) (by decide), ?_⟩
      by_cases h0 : (10 : Int) ^ Int.toNat 18 ≤ a
      · simp only [decide_eq_true h0]
        simp only [dMod, dFdiv, dI, gup_same, at0, dSetI]
        refine ⟨by omega, div_ok (by omega) hm2, ?_⟩
        simp only [ix0, List.set_cons_zero, gup_gup]
        have hr1 := Int.emod_nonneg a (show m ≠ 0 by omega)
        have hr2 := Int.emod_lt_of_pos a (show 0 < m by omega)
        have er : a % m = ((a % m).toNat : Int) := by omega
        rw [er]
        exact ret_same (h _ _ (by omega) ⟨_, _, rfl, Int.ediv_nonneg ha (by omega), by omega, by omega⟩)
      · simp only [decide_eq_false h0]
        simp only [gup_same, at0, at1', dMul, dMod, dFdiv, dAdd, dI]
        have m1 : ∀ x : Int, 0 ≤ x % 2147483587 ∧ x % 2147483587 < 2147483587 := fun x => ⟨Int.emod_nonneg _ (by decide), Int.emod_lt_of_pos _ (by decide)⟩
        have m2 : ∀ x : Int, 0 ≤ x % 2147483563 ∧ x % 2147483563 < 2147483563 := fun x => ⟨Int.emod_nonneg _ (by decide), Int.emod_lt_of_pos _ (by decide)⟩
        refine ⟨by decide, mul_ok (by decide) (by decide), by decide, ?_⟩
        generalize (a % 2147483629 + 104729 * (b + 1) + 1) = x1
        have := m1 x1
        refine ⟨mul_ok (by omega) (by omega), by decide, ?_⟩
        refine ⟨mul_ok (by decide) (by decide), by decide, ?_⟩
        generalize (x1 % 2147483587 * (x1 % 2147483587) % 2147483587 + 40692 * (b + 1)) = x2
        have := m2 x2
        refine ⟨mul_ok (by omega) (by omega), by decide, div_ok (by decide) (by decide), by omega, ?_⟩
        generalize x2 % 2147483563 * (x2 % 2147483563) % 2147483563 / 8 = y
        have hr1 := Int.emod_nonneg y (show m ≠ 0 by omega)
        have hr2 := Int.emod_lt_of_pos y (show 0 < m by omega)
        have er : y % m = ((y % m).toNat : Int) := by omega
        rw [er]
        exact ret_same (h _ _ (by omega) ⟨_, _, rfl, ha, by omega, by omega⟩)
    · exact h.elim
theorem go_draw {s : Addr} {m : Int} {G : Gp} {R : DK} {n : Nat} {o : GO} (e : G s = some o) (ho : BagO n o) (hn : n ≤ 1000000) (h1 : 1 ≤ m) (h2 : m < 2 ^ 64) (k : ∀ (r : Nat) o', (r : Int) < m → BagO (n + 1) o' → R (.int r) (gup G s o')) : sp__law_draw [.ref s, .int m] G R := ⟨n, o, e, ho, hn, h1, h2, k⟩
end K64


set_option Elab.async false
set_option linter.all false
set_option maxRecDepth 100000
set_option maxHeartbeats 4000000
set_option autoImplicit false
namespace K64
open PySem PySem.Spec PyProof.Rows L2 DL
local macro_rules | `(tactic| walk_at "d") => `(tactic| dsimp only [dSeq, dNext, dIfS, dRet, dRetN, dAsg, dName, dVar, dC, dOp, dUn, dChain, dB, dAnd, dOr, dNot, dAndV, dOrV, dNotV, dIf, dNil, dCons, dTup, dLst, newL, dCallB, dCall, dCallK, dDrop, dAug, dAugS, dSub, dM, dM0, dSlice, dNoPart, dPart, dLc, dYes, dFor, dIter, dRng1, dEnum, dZipM, srcD, dStar, dInK, dIxK, dLenSet, dRev,
  startD, wipeD, setAll, dNames, List.map_cons, List.map_nil, List.length_cons, List.length_nil, List.replicate, List.cons_append, List.nil_append, List.append_nil, List.getElem?_cons_zero, List.getElem?_cons_succ, List.set_cons_zero, List.set_cons_succ, List.map, Nat.zero_add, Nat.reduceAdd, Nat.reduceSub, Nat.sub_self, Nat.succ_sub_succ_eq_sub])
local macro_rules | `(tactic| walk_at "o") => `(tactic| simp only [dAdd_ii, dAdd_ss, dAdd_tt, dAdd_ll, dMinus_ii, dMul_ii, dMod_ii, dFdiv_ii, dPow_ii, dShl_ii, dNeg_i, dIadd_ii, dLt_ii, dLe_ii, dGt_ii, dGe_ii, dEq_ii, dNe_ii, dEq_ss, dNe_ss, dEq_bb, dNe_bb, dIs_n, dIsNot_n, dMax2_ii, dMin2_ii, dTuple_t, dTuple_l, dList_t, dList_l, dIx_t, dIx_l, dIx_s, dSl_t, dSl_l, dSl_s, newL_f, len_tup, len_lst])
local macro_rules | `(tactic| walk_at "w") => `(tactic| dsimp only [x_var, x_c, x_op, x_un, x_b, x_and, x_or, x_not, x_chain, x_andV, x_orV, x_notV, x_if, x_nil, x_cons, x_tup, x_lst0, x_lst1, x_callB, x_call, x_callK, x_next, x_seq, x_break, x_cont, x_drop, x_ret, x_ifS, x_asg, x_name, x_names, x_sub, x_aug, x_augS, x_for, x_lc0, x_lc1, x_yes, x_noPart, x_part, x_slice, x_iter, it_t, it_l, it_n, it_s, it_r, x_rng1, x_enum, x_rev, x_m, x_m0, x_mX, x_zip, x_star_t, x_star_l, x_lenSet, x_forgo0, x_lcgo0, x_while, x_par, x_sortK,
  br_t, br_f, isB_bl, isI_int, isN_some, slo_some, atL_lst, ix_t, ix_l, ix_n,
  dAdd_ii, dAdd_ss, dAdd_tt, dAdd_ll, dMinus_ii, dMul_ii, dMod_ii, dFdiv_ii, dPow_ii, dShl_ii, dNeg_i, dIadd_ii, dLt_ii, dLe_ii, dGt_ii, dGe_ii, ltE_ii, ltE_ss, srcD, isi_i, isi_s, isi_b, isi_n, isi_t, isi_nt, isi_l, isi2_i, isi2_s, isi2_b, isi2_n, isi2_t, isi2_nt, isi2_l, inon_n, inon_i, inon_s, inon_b, inon_t, inon_l, inon_r, dEq_ii, dNe_ii, dEq_ss, dNe_ss, dEq_bb, dNe_bb, dIs_n, dIsNot_n, dMax2_ii, dMin2_ii, dTuple_t, dTuple_l, dList_t, dList_l, dSl_t, dSl_l, dSl_s, newL_f, newL_t, app_r, int_b, int_i, strI_i, strX_i, strX_s,
  startD, wipeD, setAll, permL, List.filterMap, List.map_cons, List.map_nil, List.length_cons, List.length_nil, List.replicate, List.cons_append, List.nil_append, List.append_nil, List.getElem?_cons_zero, List.getElem?_cons_succ, List.set_cons_zero, List.set_cons_succ, List.map, Nat.zero_add, Nat.reduceAdd, Nat.reduceSub, Nat.sub_self, Nat.succ_sub_succ_eq_sub])
local macro_rules | `(tactic| walk_at "v") => `(tactic| simp only [ofString_inj, String.reduceEq, at_0, at_1, at_2, at_3, at_4, at_5, isN_some, isBB_bl, isB_bl, br_t, br_f, br_not, br_and, br_or, br_dec, ix_r, len_tup, len_lst, len_nt, ltE_key, gup_gup, gup_same, starD_one, cut1, cut2, kt1, kt2, kt3, kt4, kt5, kt6, isTy, String.reduceBEq, Bool.or_false, Bool.false_or, Bool.true_or, Bool.or_true, Bool.and_false, Bool.false_and, Bool.true_and, Bool.and_true, Bool.not_true, Bool.not_false, decide_true, decide_false, eq_self_iff_true, Bool.false_eq_true, Int.reduceAdd, Int.add_zero, if_true, if_false, true_and, and_true])
local macro_rules | `(tactic| walk_at "side") => `(tactic| first | with_reducible assumption | omega | exact mty_up | exact True.intro | (simp only [List.mem_cons, ofString_inj, String.reduceEq, true_or, or_true, List.length_map]; done) | with_reducible exact (rfl : (_ : Nat) = _) | exact (rfl : (_ : Option String) = _) | (refine small_line ?_; omega) | (walk_at "ll"; first | omega | (refine small_line ?_; omega) | fail) | (exact log_small (by omega)) | fail)
local macro_rules | `(tactic| walk_at "x") => `(tactic| fail)
local macro_rules | `(tactic| walk_at "go") => `(tactic| repeat' (first | dsimp only [x_var, x_c, x_op, x_un, x_b, x_and, x_or, x_not, x_chain, x_andV, x_orV, x_notV, x_if, x_nil, x_cons, x_tup, x_lst0, x_lst1, x_callB, x_call, x_callK, x_next, x_seq, x_break, x_cont, x_drop, x_ret, x_ifS, x_asg, x_name, x_names, x_sub, x_aug, x_augS, x_for, x_lc0, x_lc1, x_yes, x_noPart, x_part, x_slice, x_iter, it_t, it_l, it_n, it_s, it_r, x_rng1, x_enum, x_rev, x_m, x_m0, x_mX, x_zip, x_star_t, x_star_l, x_lenSet, x_forgo0, x_lcgo0, x_while, x_par, x_sortK, br_t, br_f, isB_bl, isI_int, isN_some, slo_some, atL_lst, ix_t, ix_l, ix_n, dAdd_ii, dAdd_ss, dAdd_tt, dAdd_ll, dMinus_ii, dMul_ii, dMod_ii, dFdiv_ii, dPow_ii, dShl_ii, dNeg_i, dIadd_ii, dLt_ii, dLe_ii, dGt_ii, dGe_ii, ltE_ii, ltE_ss, srcD, isi_i, isi_s, isi_b, isi_n, isi_t, isi_nt, isi_l, isi2_i, isi2_s, isi2_b, isi2_n, isi2_t, isi2_nt, isi2_l, inon_n, inon_i, inon_s, inon_b, inon_t, inon_l, inon_r, dEq_ii, dNe_ii, dEq_ss, dNe_ss, dEq_bb, dNe_bb, dIs_n, dIsNot_n, dMax2_ii, dMin2_ii, dTuple_t, dTuple_l, dList_t, dList_l, dSl_t, dSl_l, dSl_s, newL_f, newL_t, app_r, int_b, int_i, strI_i, strX_i, strX_s, startD, wipeD, setAll, permL, List.filterMap, List.map_cons, List.map_nil, List.length_cons, List.length_nil, List.replicate, List.cons_append, List.nil_append, List.append_nil, List.getElem?_cons_zero, List.getElem?_cons_succ, List.set_cons_zero, List.set_cons_succ, List.map, Nat.zero_add, Nat.reduceAdd, Nat.reduceSub, Nat.sub_self, Nat.succ_sub_succ_eq_sub] | simp only [ofString_inj, String.reduceEq, at_0, at_1, at_2, at_3, at_4, at_5, isN_some, isBB_bl, isB_bl, br_t, br_f, br_not, br_and, br_or, br_dec, ix_r, len_tup, len_lst, len_nt, ltE_key, gup_gup, gup_same, starD_one, cut1, cut2, kt1, kt2, kt3, kt4, kt5, kt6, isTy, String.reduceBEq, Bool.or_false, Bool.false_or, Bool.true_or, Bool.or_true, Bool.and_false, Bool.false_and, Bool.true_and, Bool.and_true, Bool.not_true, Bool.not_false, decide_true, decide_false, eq_self_iff_true, Bool.false_eq_true, Int.reduceAdd, Int.add_zero, if_true, if_false, true_and, and_true] | walk_at "x" | with_reducible refine kont_go ?_ | with_reducible refine rt_sub (by assumption) ?_ | with_reducible refine rt_lst (by assumption) ?_ | with_reducible refine rt_drop (by assumption) ?_ | with_reducible refine rt_keep (by assumption) (by assumption) ?_ | with_reducible refine rt_same ?_ | (refine fun (p : Addr) (_ : _ = none) => ?_) | refine join_gor gup_same rfl (by walk_at "side") ?_ | with_reducible refine lc_cons ?_ | with_reducible refine for_cons ?_ | refine join_go rfl (by walk_at "side") ?_ | refine And.intro (by first | with_reducible assumption | omega | exact mty_up | exact True.intro | (simp only [List.mem_cons, ofString_inj, String.reduceEq, true_or, or_true, List.length_map]; done) | with_reducible exact (rfl : (_ : Nat) = _) | exact (rfl : (_ : Option String) = _) | (refine small_line ?_; omega) | (walk_at "ll"; first | omega | (refine small_line ?_; omega) | fail) | (exact log_small (by omega)) | fail) ?_ | fail))
local macro_rules | `(tactic| walk_at "ll") => `(tactic| simp only [List.length_map, List.length_append, List.length_cons, List.length_nil, List.map_cons, List.map_nil, List.sum_cons, List.sum_nil, len_app, rng_length, ll_0, ll_1, ll_2, ll_3, ll_4, ll_5, ll_6, ll_7, ll_8, ll_9, ll_10, ll_11, ll_12, ll_13, ll_14, ll_15, ll_16, ll_17, ll_18, ll_19, ll_20, ll_21, ll_22, ll_23, ll_24, ll_25, ll_26, ll_27])
/-! ### names -/
def low (c : Nat) : Bool := decide (97 ≤ c) && decide (c ≤ 122)
def nameOk (z : Str) : Bool := decide (1 ≤ z.length) && decide (z.length ≤ 8) && z.cps.toList.all low
/-! ### names drawn -/
theorem nameOk_iff {z : Str} : nameOk z = true ↔ (1 ≤ (cds z).length ∧ (cds z).length ≤ 8) ∧ ∀ c ∈ cds z, low c = true := by
  unfold nameOk
  rw [cds_len]
  simp only [Bool.and_eq_true, decide_eq_true_eq, List.all_eq_true]
/-- what a drawn list of names is -/
structure NamesOk (names : List Str) : Prop where
  ok : ∀ z ∈ names, nameOk z = true
  nd : names.Nodup
/-! ### machines drawn -/
/-- a machine, by its parts -/
structure MachP (b : Int) (names : List Str) (h al mo c : Int) : Prop where
  b1 : 1 ≤ b
  b2 : b ≤ 8
  n1 : 1 ≤ names.length
  n2 : names.length ≤ 6
  nm : NamesOk names
  h1 : 0 ≤ h
  h2 : h ≤ 12
  a1 : 1 ≤ al
  a2 : al ≤ 3
  m1 : 1 ≤ mo
  m2 : mo ≤ 3
  c1 : 0 ≤ c
  c2 : c ≤ 2 ^ b.toNat
structure Mach where
  b : Int
  names : List Str
  h : Int
  al : Int
  mo : Int
  c : Int
/-- a machine: its names are a tuple whose methods may be called -/
def Mach.d (M : Mach) : D := .tup [.int M.b, .nt M.names, .int M.h, .int M.al, .int M.mo, .int M.c]
def Mach.ok (M : Mach) : Prop := MachP M.b M.names M.h M.al M.mo M.c
theorem top_le {b : Int} (h1 : 1 ≤ b) (h2 : b ≤ 8) : (2 : Int) ≤ 2 ^ b.toNat ∧ (2 : Int) ^ b.toNat ≤ 256 := by
  have : b = 1 ∨ b = 2 ∨ b = 3 ∨ b = 4 ∨ b = 5 ∨ b = 6 ∨ b = 7 ∨ b = 8 := by omega
  rcases this with rfl | rfl | rfl | rfl | rfl | rfl | rfl | rfl <;> decide
theorem shl_ok {i : Int} (h0 : 0 ≤ i) (h1 : i ≤ 1000) : CShl 1 i := by
  refine ⟨h0, ?_⟩
  have : (Builtin.Int.intBits 1 : Int) = 1 := by decide
  rw [this]
  omega
def Plc.ok (M : Mach) : Plc → Prop
  | .reg x => x ∈ M.names | .hid k => (k : Int) < M.h
def opL : List Str := ["add", "sub", "and", "or", "xor", "less", "same"]
def Ord.ok (M : Mach) : Ord → Prop
  | .alu op to a b => op ∈ opL ∧ to.ok M ∧ a.ok M ∧ b.ok M
  | .move to a => to.ok M ∧ a.ok M
  | .put to w => to.ok M ∧ (w : Int) < 2 ^ M.b.toNat
  | .load to a => to.ok M ∧ a.ok M
  | .store to a => to.ok M ∧ a.ok M
theorem name_len {z : Str} (h : nameOk z = true) : z.length ≤ 100 := by
  have := (nameOk_iff.mp h).1.2
  rw [cds_len] at this
  omega
theorem Plc.ok.small {M : Mach} (hM : M.ok) {p : Plc} (h : p.ok M) : p.small := by
  cases p with
  | reg x => exact name_len (hM.nm.1 x h)
  | hid k => have := hM.h2; have : (k : Int) < M.h := h; show k ≤ 1000; omega
theorem op_len : ∀ op ∈ opL, op.length ≤ 100 := by decide +kernel
theorem Ord.ok.small {M : Mach} (hM : M.ok) {o : Ord} (h : o.ok M) : o.small := by
  have ht := top_le hM.b1 hM.b2
  cases o with
  | alu op to a b => exact ⟨op_len _ h.1, h.2.1.small hM, h.2.2.1.small hM, h.2.2.2.small hM⟩
  | put to w => have := h.2; exact ⟨h.1.small hM, by omega⟩
  | move to a => exact ⟨h.1.small hM, h.2.small hM⟩
  | load to a => exact ⟨h.1.small hM, h.2.small hM⟩
  | store to a => exact ⟨h.1.small hM, h.2.small hM⟩
theorem pick {xs : List D} {r : Nat} {k : D → Prop} (hr : r < xs.length) (h : ∀ x ∈ xs, k x) : isN (atI xs (r : Int)) k := by
  rw [atI_nat (j := r) (v := xs[r]) (List.getElem?_eq_getElem hr)]
  exact h _ (List.getElem_mem hr)
theorem tupleN_l {zs : List Str} {G : Gp} {R : DK} : dTupleN [.lst (zs.map D.str)] G R = R (.nt zs) G := by
  show (match (lstOf G (.lst (zs.map D.str))).bind strsOf with | some zs => R (.nt zs) G | none => False) = _
  have : (lstOf G (.lst (zs.map D.str))).bind strsOf = some zs := strsOf_strs zs
  rw [this]
/-! ### a machine drawn -/
def nm6 : List Str := ["a", "b", "cc", "h", "nop", "abcdefgh"]
def regsL (st mn : Nat) : List Str := (List.range mn).map fun k => nm6.getD ((st + k) % 6) ⟨#[]⟩
theorem regs_ok : ∀ st, st < 6 → ∀ mn, mn < 5 → (∀ z ∈ regsL st mn, nameOk z = true) ∧ (regsL st mn).Nodup ∧ (regsL st mn).length = mn := by decide +kernel
theorem ix_nm6 (st k : Nat) {G : Gp} {R : DK} (h : R (.str (nm6.getD ((st + k) % 6) ⟨#[]⟩)) G) : dIx (.lst [.str "a", .str "b", .str "cc", .str "h", .str "nop", .str "abcdefgh"]) (.int (((st : Int) + (k : Int)) % 6)) G R := by
  rw [show ((st : Int) + (k : Int)) % 6 = (((st + k) % 6 : Nat) : Int) by omega]
  have hi : (st + k) % 6 < 6 := Nat.mod_lt _ (by decide)
  generalize (st + k) % 6 = i at h hi ⊢
  rcases (show i = 0 ∨ i = 1 ∨ i = 2 ∨ i = 3 ∨ i = 4 ∨ i = 5 by omega) with rfl | rfl | rfl | rfl | rfl | rfl <;> exact h
theorem lc_rngN {n : Nat} {g : DG} {te : DE} {σ : Sd} {G : Gp} (f : Nat → D) (h : ∀ k, k < n → ∀ Q : DK, Q (f k) G → g (.int (k : Nat)) σ G fun σ2 G2 => te σ2 G2 Q) {Q : List D → Gp → Prop} (q : Q ((List.range n).map f) G) : dLcGo g dYes te (fun _ => True) σ (rng 0 n) [] G Q := by
  have e : rng 0 n = (List.range n).map fun k => D.int (k : Nat) := by
    unfold rng
    refine List.map_congr_left fun k _ => ?_
    rw [Int.zero_add]
  rw [e]
  exact lc_typ (fun k : Nat => D.int (k : Nat)) f True.intro _ [] (fun k hk Q q => h k (List.mem_range.mp hk) Q q) _ (by simpa using q)
def sp__law_machine : DSp := fun ds G R => ∃ (s : Addr) (n : Nat) (o : GO), ds = [.ref s] ∧ G s = some o ∧ BagO n o ∧ n ≤ 900000 ∧ ∀ (M : Mach) o', M.ok → M.names.length ≤ 4 → 1 ≤ M.h → M.h ≤ 5 → M.c ≤ 40 → BagO (n + 9) o' → R M.d (gup G s o')
local macro_rules | `(tactic| walk_at "x") => `(tactic| first | refine go_draw (by first | exact gup_same | assumption | fail) (by assumption) (by omega) (by walk_at "side") (by walk_at "side") fun _ _ _ _ => ?_ | fail)
theorem ok__law_machine {P : Program} {w : World} {K : PySem.W.Frag} {mg : Str → Option Value} {base : Heap} {a : Ad} (T : TxB w K mg base a) : FnD P w K mg base 2 a.f__law_machine a.fd__law_machine ["bag"] sp__law_machine := by
  refine fun_okD T.F__law_machine sc__law_machine (fun ds G R h => ?_) (fun cdv A outer s H hr => ⟨_, (qss_cons (qs_set (i := 1) sc__law_machine.nd rfl (.inl rfl) (qe_op (od_add false) qe_int (qe_call (ok__law_draw T) (hr.mono (by omega)) rfl T.g__law_draw T.F__law_draw.kp T.b__law_draw (qa_cons (qv 0) (qa_cons (qe_ix xd_ix (qe_lst false (qa_cons qe_int (qa_cons qe_int qa_nil))) (qe_call (ok__law_draw T) (hr.mono (by omega)) rfl T.g__law_draw T.F__law_draw.kp T.b__law_draw (qa_cons (qv 0) (qa_cons qe_int qa_nil))) (fun _ _ => rfl)) qa_nil)))))
      (qss_cons (qs_set (i := 2) sc__law_machine.nd rfl (.inr rfl) (qe_lst false (qa_cons qe_str (qa_cons qe_str (qa_cons qe_str (qa_cons qe_str (qa_cons qe_str (qa_cons qe_str qa_nil))))))))
      (qss_cons (qs_set (i := 3) sc__law_machine.nd rfl (.inl rfl) (qe_op (od_add false) qe_int (qe_call (ok__law_draw T) (hr.mono (by omega)) rfl T.g__law_draw T.F__law_draw.kp T.b__law_draw (qa_cons (qv 0) (qa_cons qe_int qa_nil)))))
      (qss_cons (qs_set (i := 4) sc__law_machine.nd rfl (.inr rfl) (qe_call (ok__law_draw T) (hr.mono (by omega)) rfl T.g__law_draw T.F__law_draw.kp T.b__law_draw (qa_cons (qv 0) (qa_cons qe_int qa_nil))))
      (qss_cons (qs_set (i := 5) sc__law_machine.nd rfl (.inl rfl) (qe_callTy cd_tupleN rfl T.n_tuple (by decide +kernel) (qa_cons (qe_lc false rfl sc__law_machine.nd (qi_range1 rfl T.n_range (qa_cons (qv 3) qa_nil)) (blkOk_by (own := [("k", 8)]) (N := N__law_machine) (sc := defScope s__law_machine) (by decide +kernel)) (fun _ _ _ _ _ => (pg_name (i := 8) sc__law_machine.nd rfl (.inl rfl))) (tg_name (i := 8) (by decide)) (fun _ _ _ _ _ => qts_nil) (fun _ _ _ _ _ => (qe_ix xd_ix (qv 2) (qe_op od_mod (qe_op (od_add false) (qv 4) (qv 8)) qe_int) (fun _ _ => rfl)))) qa_nil)))
      (qss_cons (qs_set (i := 6) sc__law_machine.nd rfl (.inl rfl) (qe_op (od_add false) qe_int (qe_call (ok__law_draw T) (hr.mono (by omega)) rfl T.g__law_draw T.F__law_draw.kp T.b__law_draw (qa_cons (qv 0) (qa_cons qe_int qa_nil)))))
      (qss_cons (qs_set (i := 7) sc__law_machine.nd rfl (.inl rfl) (qe_ix xd_ix (qe_lst false (qa_cons qe_int (qa_cons qe_int (qa_cons (qe_op od_sub (qe_op od_shl qe_int (qv 1)) qe_int) (qa_cons (qe_op od_shl qe_int (qv 1)) (qa_cons (qe_call (ok__law_draw T) (hr.mono (by omega)) rfl T.g__law_draw T.F__law_draw.kp T.b__law_draw (qa_cons (qv 0) (qa_cons (qe_op (od_add false) (qe_op od_shl qe_int (qv 1)) qe_int) qa_nil))) qa_nil)))))) (qe_call (ok__law_draw T) (hr.mono (by omega)) rfl T.g__law_draw T.F__law_draw.kp T.b__law_draw (qa_cons (qv 0) (qa_cons qe_int qa_nil))) (fun _ _ => rfl)))
      (qss_one (qs_ret (qe_tup (qa_cons (qv 1) (qa_cons (qv 5) (qa_cons (qv 6) (qa_cons (qe_op (od_add false) qe_int (qe_call (ok__law_draw T) (hr.mono (by omega)) rfl T.g__law_draw T.F__law_draw.kp T.b__law_draw (qa_cons (qv 0) (qa_cons qe_int qa_nil)))) (qa_cons (qe_op (od_add false) qe_int (qe_call (ok__law_draw T) (hr.mono (by omega)) rfl T.g__law_draw T.F__law_draw.kp T.b__law_draw (qa_cons (qv 0) (qa_cons qe_int qa_nil)))) (qa_cons (qe_callB (cd_min2 rfl) rfl T.n_min (by decide +kernel) (qa_cons (qv 7) (qa_cons qe_int qa_nil))) qa_nil)))))))))))))))), fun ds G R h => ?_⟩)
  · obtain ⟨s, n, o, rfl, _⟩ := h; rfl
  · obtain ⟨s, n, o, rfl, e, ho, hn, h⟩ := h
    refine seq_cut (fun σ' G' => ∃ (b : Nat) (o1 : GO), σ' = [some (D.ref s), some (.int (b : Nat)), none, none, none, none, none, none, none] ∧ 1 ≤ b ∧ b ≤ 8 ∧ BagO (n + 2) o1 ∧ G' = gup G s o1) ?_ (fun N1 hN1 => ?_)
    rotate_left
    · walk_at "go"
      rename_i r1 o1 hr1 ho1
      refine pick (by walk_at "side") fun x hx => ?_
      obtain ⟨m, rfl, hm1, hm2⟩ : ∃ m : Int, x = .int m ∧ 3 ≤ m ∧ m ≤ 8 := by
        simp only [List.mem_cons, List.not_mem_nil, or_false] at hx
        rcases hx with rfl | rfl
        · exact ⟨_, rfl, by omega, by omega⟩
        · exact ⟨_, rfl, by omega, by omega⟩
      walk_at "go"
      rename_i r2 o2 hr2 ho2
      exact hN1 _ _ ⟨1 + r2, o2, by rw [Int.natCast_add]; rfl, by omega, by omega, ho2, rfl⟩
    rintro σ G1 ⟨b, o1, rfl, hb1, hb2, ho1, rfl⟩
    refine seq_cut (fun σ' G' => σ' = [some (D.ref s), some (.int (b : Nat)), some (.lst [.str "a", .str "b", .str "cc", .str "h", .str "nop", .str "abcdefgh"]), none, none, none, none, none, none] ∧ G' = gup G s o1) ?_ (fun N1 hN1 => ?_)
    rotate_left
    · walk_at "go"
      exact hN1 _ _ ⟨rfl, rfl⟩
    rintro σ G1 ⟨rfl, rfl⟩
    refine seq_cut (fun σ' G' => ∃ (mn : Nat) (o2 : GO), σ' = [some (D.ref s), some (.int (b : Nat)), some (.lst [.str "a", .str "b", .str "cc", .str "h", .str "nop", .str "abcdefgh"]), some (.int (mn : Nat)), none, none, none, none, none] ∧ 1 ≤ mn ∧ mn ≤ 4 ∧ BagO (n + 3) o2 ∧ G' = gup G s o2) ?_ (fun N1 hN1 => ?_)
    rotate_left
    · walk_at "go"
      rename_i r o2 hr ho2
      exact hN1 _ _ ⟨1 + r, o2, by rw [Int.natCast_add]; rfl, by omega, by omega, ho2, rfl⟩
    rintro σ G1 ⟨mn, o2, rfl, hm1, hm2, ho2, rfl⟩
    refine seq_cut (fun σ' G' => ∃ (st : Nat) (o2 : GO), σ' = [some (D.ref s), some (.int (b : Nat)), some (.lst [.str "a", .str "b", .str "cc", .str "h", .str "nop", .str "abcdefgh"]), some (.int (mn : Nat)), some (.int (st : Nat)), none, none, none, none] ∧ st < 6 ∧ BagO (n + 4) o2 ∧ G' = gup G s o2) ?_ (fun N1 hN1 => ?_)
    rotate_left
    · walk_at "go"
      rename_i r o2 hr ho2
      exact hN1 _ _ ⟨r, o2, rfl, by omega, ho2, rfl⟩
    rintro σ G1 ⟨st, o3, rfl, hst, ho3, rfl⟩
    obtain ⟨rg1, rg2, rg3⟩ := regs_ok st hst mn (by omega)
    refine seq_cut (fun σ' G' => σ' = [some (D.ref s), some (.int (b : Nat)), some (.lst [.str "a", .str "b", .str "cc", .str "h", .str "nop", .str "abcdefgh"]), some (.int (mn : Nat)), some (.int (st : Nat)), some (.nt (regsL st mn)), none, none, none] ∧ G' = gup G s o3) ?_ (fun N1 hN1 => ?_)
    rotate_left
    · walk_at "go"
      refine lc_rngN (fun k => .str (nm6.getD ((st + k) % 6) ⟨#[]⟩)) (fun k hk Q q => ?_) ?_
      · walk_at "go"
        exact ix_nm6 st k q
      · walk_at "go"
        rw [Int.toNat_natCast, show (List.range mn).map (fun k => D.str (nm6.getD ((st + k) % 6) ⟨#[]⟩)) = (regsL st mn).map D.str by unfold regsL; rw [List.map_map]; rfl]
        rw [tupleN_l]
        exact hN1 _ _ ⟨rfl, rfl⟩
    rintro σ G1 ⟨rfl, rfl⟩
    have hsh : CShl 1 (b : Int) := shl_ok (by omega) (by omega)
    have htop := top_le (b := (b : Int)) (by omega) (by omega)
    walk_at "go"
    rename_i h1 o4 hh1 ho4 r5 o5 hr5 ho5 r6 o6 hr6 ho6
    refine pick (by walk_at "side") fun x hx => ?_
    rw [Int.one_mul] at hx hr5
    obtain ⟨c, rfl, hc1, hc2⟩ : ∃ c : Int, x = .int c ∧ 0 ≤ c ∧ c ≤ 2 ^ (b : Int).toNat := by
      simp only [List.mem_cons, List.not_mem_nil, or_false] at hx
      rcases hx with rfl | rfl | rfl | rfl | rfl
      · exact ⟨_, rfl, by omega, by omega⟩
      · exact ⟨_, rfl, by omega, by omega⟩
      · exact ⟨_, rfl, by omega, by omega⟩
      · exact ⟨_, rfl, by omega, by omega⟩
      · exact ⟨_, rfl, by omega, by omega⟩
    walk_at "go"
    rename_i r7 o7 hr7 ho7 r8 o8 hr8 ho8
    refine h ⟨b, regsL st mn, 1 + h1, 1 + r7, 1 + r8, if 40 < c then 40 else c⟩ o8 ⟨by show (1 : Int) ≤ (b : Int); omega, by show (b : Int) ≤ 8; omega, by show 1 ≤ List.length _; rw [rg3]; omega, by show List.length _ ≤ 6; rw [rg3]; omega, ⟨rg1, rg2⟩, by show (0 : Int) ≤ 1 + (h1 : Int); omega, by show 1 + (h1 : Int) ≤ 12; omega, by show (1 : Int) ≤ 1 + (r7 : Int); omega, by show 1 + (r7 : Int) ≤ 3; omega, by show (1 : Int) ≤ 1 + (r8 : Int); omega, by show 1 + (r8 : Int) ≤ 3; omega, by show (0 : Int) ≤ (if 40 < c then 40 else c); split <;> omega, by show (if 40 < c then 40 else c) ≤ 2 ^ (b : Int).toNat; split <;> omega⟩ ?_ ?_ ?_ ?_ (ho8.mono (by omega))
    · show List.length _ ≤ 4; rw [rg3]; omega
    · show (1 : Int) ≤ 1 + (h1 : Int); omega
    · show 1 + (h1 : Int) ≤ 5; omega
    · show (if 40 < c then 40 else c) ≤ 40; split <;> omega
theorem go_machine {s : Addr} {n : Nat} {o : GO} {G : Gp} {R : DK} (e : G s = some o) (ho : BagO n o) (hn : n ≤ 900000) (h : ∀ (M : Mach) o', M.ok → M.names.length ≤ 4 → 1 ≤ M.h → M.h ≤ 5 → M.c ≤ 40 → BagO (n + 9) o' → R M.d (gup G s o')) : sp__law_machine [.ref s] G R := ⟨s, n, o, rfl, e, ho, hn, h⟩
end K64


set_option Elab.async false
set_option linter.all false
set_option maxRecDepth 100000
set_option maxHeartbeats 4000000
set_option autoImplicit false
namespace K64
open PySem PySem.Spec PyProof.Rows L2 DL
local macro_rules | `(tactic| walk_at "d") => `(tactic| dsimp only [dSeq, dNext, dIfS, dRet, dRetN, dAsg, dName, dVar, dC, dOp, dUn, dChain, dB, dAnd, dOr, dNot, dAndV, dOrV, dNotV, dIf, dNil, dCons, dTup, dLst, newL, dCallB, dCall, dCallK, dDrop, dAug, dAugS, dSub, dM, dM0, dSlice, dNoPart, dPart, dLc, dYes, dFor, dIter, dRng1, dEnum, dZipM, srcD, dStar, dInK, dIxK, dLenSet, dRev,
  startD, wipeD, setAll, dNames, List.map_cons, List.map_nil, List.length_cons, List.length_nil, List.replicate, List.cons_append, List.nil_append, List.append_nil, List.getElem?_cons_zero, List.getElem?_cons_succ, List.set_cons_zero, List.set_cons_succ, List.map, Nat.zero_add, Nat.reduceAdd, Nat.reduceSub, Nat.sub_self, Nat.succ_sub_succ_eq_sub])
local macro_rules | `(tactic| walk_at "o") => `(tactic| simp only [dAdd_ii, dAdd_ss, dAdd_tt, dAdd_ll, dMinus_ii, dMul_ii, dMod_ii, dFdiv_ii, dPow_ii, dShl_ii, dNeg_i, dIadd_ii, dLt_ii, dLe_ii, dGt_ii, dGe_ii, dEq_ii, dNe_ii, dEq_ss, dNe_ss, dEq_bb, dNe_bb, dIs_n, dIsNot_n, dMax2_ii, dMin2_ii, dTuple_t, dTuple_l, dList_t, dList_l, dIx_t, dIx_l, dIx_s, dSl_t, dSl_l, dSl_s, newL_f, len_tup, len_lst])
local macro_rules | `(tactic| walk_at "w") => `(tactic| dsimp only [x_var, x_c, x_op, x_un, x_b, x_and, x_or, x_not, x_chain, x_andV, x_orV, x_notV, x_if, x_nil, x_cons, x_tup, x_lst0, x_lst1, x_callB, x_call, x_callK, x_next, x_seq, x_break, x_cont, x_drop, x_ret, x_ifS, x_asg, x_name, x_names, x_sub, x_aug, x_augS, x_for, x_lc0, x_lc1, x_yes, x_noPart, x_part, x_slice, x_iter, it_t, it_l, it_n, it_s, it_r, x_rng1, x_enum, x_rev, x_m, x_m0, x_mX, x_zip, x_star_t, x_star_l, x_lenSet, x_forgo0, x_lcgo0, x_while, x_par, x_sortK,
  br_t, br_f, isB_bl, isI_int, isN_some, slo_some, atL_lst, ix_t, ix_l, ix_n,
  dAdd_ii, dAdd_ss, dAdd_tt, dAdd_ll, dMinus_ii, dMul_ii, dMod_ii, dFdiv_ii, dPow_ii, dShl_ii, dNeg_i, dIadd_ii, dLt_ii, dLe_ii, dGt_ii, dGe_ii, ltE_ii, ltE_ss, srcD, isi_i, isi_s, isi_b, isi_n, isi_t, isi_nt, isi_l, isi2_i, isi2_s, isi2_b, isi2_n, isi2_t, isi2_nt, isi2_l, inon_n, inon_i, inon_s, inon_b, inon_t, inon_l, inon_r, dEq_ii, dNe_ii, dEq_ss, dNe_ss, dEq_bb, dNe_bb, dIs_n, dIsNot_n, dMax2_ii, dMin2_ii, dTuple_t, dTuple_l, dList_t, dList_l, dSl_t, dSl_l, dSl_s, newL_f, newL_t, app_r, int_b, int_i, strI_i, strX_i, strX_s,
  startD, wipeD, setAll, permL, List.filterMap, List.map_cons, List.map_nil, List.length_cons, List.length_nil, List.replicate, List.cons_append, List.nil_append, List.append_nil, List.getElem?_cons_zero, List.getElem?_cons_succ, List.set_cons_zero, List.set_cons_succ, List.map, Nat.zero_add, Nat.reduceAdd, Nat.reduceSub, Nat.sub_self, Nat.succ_sub_succ_eq_sub])
local macro_rules | `(tactic| walk_at "v") => `(tactic| simp only [ofString_inj, String.reduceEq, at_0, at_1, at_2, at_3, at_4, at_5, isN_some, isBB_bl, isB_bl, br_t, br_f, br_not, br_and, br_or, br_dec, ix_r, len_tup, len_lst, len_nt, ltE_key, gup_gup, gup_same, starD_one, cut1, cut2, kt1, kt2, kt3, kt4, kt5, kt6, isTy, String.reduceBEq, Bool.or_false, Bool.false_or, Bool.true_or, Bool.or_true, Bool.and_false, Bool.false_and, Bool.true_and, Bool.and_true, Bool.not_true, Bool.not_false, decide_true, decide_false, eq_self_iff_true, Bool.false_eq_true, Int.reduceAdd, Int.add_zero, if_true, if_false, true_and, and_true])
local macro_rules | `(tactic| walk_at "side") => `(tactic| first | with_reducible assumption | omega | exact mty_up | exact True.intro | (simp only [List.mem_cons, ofString_inj, String.reduceEq, true_or, or_true, List.length_map]; done) | with_reducible exact (rfl : (_ : Nat) = _) | exact (rfl : (_ : Option String) = _) | (refine small_line ?_; omega) | (walk_at "ll"; first | omega | (refine small_line ?_; omega) | fail) | (exact log_small (by omega)) | fail)
local macro_rules | `(tactic| walk_at "x") => `(tactic| fail)
local macro_rules | `(tactic| walk_at "go") => `(tactic| repeat' (first | dsimp only [x_var, x_c, x_op, x_un, x_b, x_and, x_or, x_not, x_chain, x_andV, x_orV, x_notV, x_if, x_nil, x_cons, x_tup, x_lst0, x_lst1, x_callB, x_call, x_callK, x_next, x_seq, x_break, x_cont, x_drop, x_ret, x_ifS, x_asg, x_name, x_names, x_sub, x_aug, x_augS, x_for, x_lc0, x_lc1, x_yes, x_noPart, x_part, x_slice, x_iter, it_t, it_l, it_n, it_s, it_r, x_rng1, x_enum, x_rev, x_m, x_m0, x_mX, x_zip, x_star_t, x_star_l, x_lenSet, x_forgo0, x_lcgo0, x_while, x_par, x_sortK, br_t, br_f, isB_bl, isI_int, isN_some, slo_some, atL_lst, ix_t, ix_l, ix_n, dAdd_ii, dAdd_ss, dAdd_tt, dAdd_ll, dMinus_ii, dMul_ii, dMod_ii, dFdiv_ii, dPow_ii, dShl_ii, dNeg_i, dIadd_ii, dLt_ii, dLe_ii, dGt_ii, dGe_ii, ltE_ii, ltE_ss, srcD, isi_i, isi_s, isi_b, isi_n, isi_t, isi_nt, isi_l, isi2_i, isi2_s, isi2_b, isi2_n, isi2_t, isi2_nt, isi2_l, inon_n, inon_i, inon_s, inon_b, inon_t, inon_l, inon_r, dEq_ii, dNe_ii, dEq_ss, dNe_ss, dEq_bb, dNe_bb, dIs_n, dIsNot_n, dMax2_ii, dMin2_ii, dTuple_t, dTuple_l, dList_t, dList_l, dSl_t, dSl_l, dSl_s, newL_f, newL_t, app_r, int_b, int_i, strI_i, strX_i, strX_s, startD, wipeD, setAll, permL, List.filterMap, List.map_cons, List.map_nil, List.length_cons, List.length_nil, List.replicate, List.cons_append, List.nil_append, List.append_nil, List.getElem?_cons_zero, List.getElem?_cons_succ, List.set_cons_zero, List.set_cons_succ, List.map, Nat.zero_add, Nat.reduceAdd, Nat.reduceSub, Nat.sub_self, Nat.succ_sub_succ_eq_sub] | simp only [ofString_inj, String.reduceEq, at_0, at_1, at_2, at_3, at_4, at_5, isN_some, isBB_bl, isB_bl, br_t, br_f, br_not, br_and, br_or, br_dec, ix_r, len_tup, len_lst, len_nt, ltE_key, gup_gup, gup_same, starD_one, cut1, cut2, kt1, kt2, kt3, kt4, kt5, kt6, isTy, String.reduceBEq, Bool.or_false, Bool.false_or, Bool.true_or, Bool.or_true, Bool.and_false, Bool.false_and, Bool.true_and, Bool.and_true, Bool.not_true, Bool.not_false, decide_true, decide_false, eq_self_iff_true, Bool.false_eq_true, Int.reduceAdd, Int.add_zero, if_true, if_false, true_and, and_true] | walk_at "x" | with_reducible refine kont_go ?_ | with_reducible refine rt_sub (by assumption) ?_ | with_reducible refine rt_lst (by assumption) ?_ | with_reducible refine rt_drop (by assumption) ?_ | with_reducible refine rt_keep (by assumption) (by assumption) ?_ | with_reducible refine rt_same ?_ | (refine fun (p : Addr) (_ : _ = none) => ?_) | refine join_gor gup_same rfl (by walk_at "side") ?_ | with_reducible refine lc_cons ?_ | with_reducible refine for_cons ?_ | refine join_go rfl (by walk_at "side") ?_ | refine And.intro (by first | with_reducible assumption | omega | exact mty_up | exact True.intro | (simp only [List.mem_cons, ofString_inj, String.reduceEq, true_or, or_true, List.length_map]; done) | with_reducible exact (rfl : (_ : Nat) = _) | exact (rfl : (_ : Option String) = _) | (refine small_line ?_; omega) | (walk_at "ll"; first | omega | (refine small_line ?_; omega) | fail) | (exact log_small (by omega)) | fail) ?_ | fail))
local macro_rules | `(tactic| walk_at "ll") => `(tactic| simp only [List.length_map, List.length_append, List.length_cons, List.length_nil, List.map_cons, List.map_nil, List.sum_cons, List.sum_nil, len_app, rng_length, ll_0, ll_1, ll_2, ll_3, ll_4, ll_5, ll_6, ll_7, ll_8, ll_9, ll_10, ll_11, ll_12, ll_13, ll_14, ll_15, ll_16, ll_17, ll_18, ll_19, ll_20, ll_21, ll_22, ll_23, ll_24, ll_25, ll_26, ll_27])
theorem eqs_cons {x y : D} {xs ys : List D} : eqDs (x :: xs) (y :: ys) = (eqD x y && eqDs xs ys) := by simp only [eqDs]
theorem eqs_nil : eqDs [] [] = true := by simp only [eqDs]
theorem eq_tt {xs ys : List D} : eqD (.tup xs) (.tup ys) = eqDs xs ys := by simp only [eqD]
theorem eq_s {x y : Str} : eqD (.str x) (.str y) = decide (x = y) := by simp only [eqD]; rfl
theorem eq_i {x y : Int} : eqD (.int x) (.int y) = decide (x = y) := by simp only [eqD]; rfl
theorem name_py {z : Str} (h : nameOk z = true) : pyD (.str z) = true := by
  have := (nameOk_iff.mp h).2
  simp only [pyD, List.all_eq_true, decide_eq_true_eq]
  intro c hc
  have := this c hc
  simp only [low, Bool.and_eq_true, decide_eq_true_eq] at this
  omega
inductive Prt where
  | plc (p : Plc) | num (w : Nat) | wrd (z : Str)
def Prt.d : Prt → D | .plc p => p.d | .num w => .int w | .wrd z => .str z
def Prt.txt : Prt → Str | .plc p => p.txt | .num w => toString (w : Int) | .wrd z => z
def Prt.small : Prt → Prop | .plc p => p.small | .num w => w ≤ 1000 | .wrd z => z.length ≤ 100
def Ord.kind : Ord → Str
  | .alu _ _ _ _ => "alu" | .move _ _ => "move" | .put _ _ => "put" | .load _ _ => "load" | .store _ _ => "store"
def Ord.parts : Ord → List Prt
  | .alu op to a b => [.wrd op, .plc to, .plc a, .plc b] | .move to a => [.plc to, .plc a] | .put to w => [.plc to, .num w] | .load to a => [.plc to, .plc a] | .store to a => [.plc to, .plc a]
theorem Ord.d_eq (o : Ord) : o.d = .tup (.str o.kind :: o.parts.map Prt.d) := by cases o <;> rfl
theorem Ord.txt_eq (o : Ord) : o.txt = Txt.join " " (o.kind :: o.parts.map Prt.txt) := by cases o <;> rfl
theorem Ord.parts_small {o : Ord} (h : o.small) : ∀ q ∈ o.parts, q.small := by
  intro q hq
  cases o <;> simp only [Ord.parts, List.mem_cons, List.not_mem_nil, or_false] at hq
  · rcases hq with rfl | rfl | rfl | rfl
    · exact h.1
    · exact h.2.1
    · exact h.2.2.1
    · exact h.2.2.2
  all_goals
    rcases hq with rfl | rfl
    · exact h.1
    · exact h.2
theorem Ord.parts_len (o : Ord) : o.parts.length ≤ 4 := by cases o <;> simp [Ord.parts]
theorem Prt.txt_len {q : Prt} (h : q.small) : q.txt.length ≤ 100 := by
  cases q with
  | plc p => exact Plc.txt_len h
  | num w => have := len_num (k := w) h; show (Str.ofString (toString (w : Int))).length ≤ 100; omega
  | wrd z => exact h
theorem kind_len (o : Ord) : o.kind.length ≤ 100 := by cases o <;> (simp only [Ord.kind]; first | (rw [len_lit]; decide) | decide +kernel)
theorem sum_le {α : Type} (f : α → Nat) (n : Nat) : ∀ l : List α, (∀ x ∈ l, f x ≤ n) → (l.map f).sum ≤ n * l.length
  | [], _ => by simp
  | x :: l, h => by
    have h1 := h x (List.mem_cons_self ..)
    have h2 := sum_le f n l fun y hy => h y (List.mem_cons_of_mem _ hy)
    simp only [List.map_cons, List.sum_cons, List.length_cons, Nat.mul_add, Nat.mul_one]
    omega
theorem words_fit {o : Ord} (h : o.small) : ((o.kind :: o.parts.map Prt.txt).map fun z : Str => z.length).sum + (o.kind :: o.parts.map Prt.txt).length * (Str.ofString " ").length ≤ 16777216 := by
  have h1 := sum_le (fun z : Str => z.length) 100 (o.kind :: o.parts.map Prt.txt) (fun z hz => by
    rcases List.mem_cons.mp hz with rfl | hz
    · exact kind_len o
    · obtain ⟨q, hq, rfl⟩ := List.mem_map.mp hz
      exact Prt.txt_len (Ord.parts_small h q hq))
  have h2 := o.parts_len
  have h3 : (Str.ofString " ").length = 1 := by rw [len_lit]; rfl
  simp only [List.length_cons, List.length_map, h3] at h1 ⊢
  omega
/-- where an order writes -/
def Ord.dst : Ord → Option Plc
  | .alu _ to _ _ => some to | .move to _ => some to | .put to _ => some to | .load to _ => some to | .store _ _ => none
theorem dst_ok {M : Mach} {o : Ord} {pl : Plc} (e : o.dst = some pl) (h : o.ok M) : pl.ok M := by
  cases o <;> cases e <;> first | exact h.1 | exact h.2.1
/-- the places that an order writes -/
def Ord.to : Ord → List Plc
  | .alu _ to _ _ => [to] | .move to _ => [to] | .put to _ => [to] | .load to _ => [to] | .store _ _ => []
/-- how many are of a kind -/
def cntO (k : Str) (os : List Ord) : Nat := os.countP fun o => decide (o.kind = k)
def spots (os : List Ord) : List Plc := os.flatMap Ord.to
/-- whether right orders may stand in one row -/
def mayO (M : Mach) (os : List Ord) : Bool := !(decide (M.al < (cntO "alu" os : Int)) || decide (M.mo < ((cntO "move" os : Int) + (cntO "put" os : Int)))) && !decide ((1 : Int) < (cntO "load" os : Int) + (cntO "store" os : Int)) && (decide (spots os).Nodup && decide os.Nodup)
theorem cnt_cons (k : Str) (o : Ord) (os : List Ord) : cntO k (o :: os) = cntO k os + (if o.kind = k then 1 else 0) := by
  unfold cntO
  rw [List.countP_cons]
  simp
/-! ### places and orders drawn -/
def sp__law_place : DSp := fun ds G R => ∃ s M n o, ds = [Mach.d M, .ref s] ∧ M.ok ∧ 1 ≤ M.h ∧ G s = some o ∧ BagO n o ∧ n ≤ 950000 ∧ ∀ (p : Plc) o', p.ok M → BagO (n + 2) o' → R p.d (gup G s o')
local macro_rules | `(tactic| walk_at "x") => `(tactic| first | refine go_draw (by first | exact gup_same | assumption | fail) (by assumption) (by omega) (by walk_at "side") (by walk_at "side") fun _ _ _ _ => ?_ | fail)
theorem ok__law_place {P : Program} {w : World} {K : PySem.W.Frag} {mg : Str → Option Value} {base : Heap} {a : Ad} (T : TxB w K mg base a) : FnD P w K mg base 2 a.f__law_place a.fd__law_place ["machine", "bag"] sp__law_place := by
  refine fun_okD T.F__law_place sc__law_place (fun ds G R h => ?_) (fun cdv A outer s H hr => ⟨_, (qss_cons (qs_if (qt_cmp (od_eq hr.units) (qe_call (ok__law_draw T) (hr.mono (by omega)) rfl T.g__law_draw T.F__law_draw.kp T.b__law_draw (qa_cons (qv 1) (qa_cons qe_int qa_nil))) qe_int (nomark _))
      (qss_one (qs_ret (qe_tup (qa_cons qe_str (qa_cons (qe_call (ok__law_draw T) (hr.mono (by omega)) rfl T.g__law_draw T.F__law_draw.kp T.b__law_draw (qa_cons (qv 1) (qa_cons (qe_ix xd_ix (qv 0) qe_int (fun _ _ => rfl)) qa_nil))) qa_nil)))))
      qss_nil)
      (qss_one (qs_ret (qe_tup (qa_cons qe_str (qa_cons (qe_ix xd_ix (qe_ix xd_ix (qv 0) qe_int (fun _ _ => rfl)) (qe_call (ok__law_draw T) (hr.mono (by omega)) rfl T.g__law_draw T.F__law_draw.kp T.b__law_draw (qa_cons (qv 1) (qa_cons (qe_callB cd_len rfl T.n_len (by decide +kernel) (qa_cons (qe_ix xd_ix (qv 0) qe_int (fun _ _ => rfl)) qa_nil)) qa_nil))) (fun _ _ => rfl)) qa_nil)))))), fun ds G R h => ?_⟩)
  · obtain ⟨s, M, n, o, rfl, _⟩ := h; rfl
  · obtain ⟨s, M, n, o, rfl, hM, hh, e, ho, hn, h⟩ := h
    have hn1 := hM.n1; have hn2 := hM.n2; have hh2 := hM.h2
    unfold Mach.d
    walk_at "go"
    rename_i r o1 hr ho1
    split
    · walk_at "go"
      rename_i r2 o2 hr2 ho2
      exact h (.hid r2) o2 hr2 ho2
    · walk_at "go"
      rename_i r2 o2 hr2 ho2
      have hl : r2 < M.names.length := by omega
      rw [atI_nat (j := r2) (v := .str M.names[r2]) (by rw [List.getElem?_map, List.getElem?_eq_getElem hl]; rfl)]
      walk_at "go"
      exact h (.reg M.names[r2]) o2 (List.getElem_mem hl) ho2
theorem go_place {s : Addr} {M : Mach} {G : Gp} {R : DK} {o : GO} {n : Nat} (hM : M.ok) (hh : 1 ≤ M.h) (e : G s = some o) (h : BagO n o) (hn : n ≤ 950000) (k : ∀ (p : Plc) o', p.ok M → BagO (n + 2) o' → R p.d (gup G s o')) : sp__law_place [M.d, .ref s] G R := ⟨s, M, n, o, rfl, hM, hh, e, h, hn, k⟩
def sp__law_order : DSp := fun ds G R => ∃ s M n o, ds = [Mach.d M, .ref s] ∧ M.ok ∧ 1 ≤ M.h ∧ G s = some o ∧ BagO n o ∧ n ≤ 940000 ∧ ∀ (x : Ord) o', x.ok M → BagO (n + 8) o' → R x.d (gup G s o')
local macro_rules | `(tactic| walk_at "x") => `(tactic| first | refine go_draw (by first | exact gup_same | assumption | fail) (by assumption) (by omega) (by walk_at "side") (by walk_at "side") fun _ _ _ _ => ?_ | refine go_place (by assumption) (by assumption) (by first | exact gup_same | assumption | fail) (by assumption) (by omega) fun _ _ _ _ => ?_ | fail)
theorem ok__law_order {P : Program} {w : World} {K : PySem.W.Frag} {mg : Str → Option Value} {base : Heap} {a : Ad} (T : TxB w K mg base a) : FnD P w K mg base 3 a.f__law_order a.fd__law_order ["machine", "bag"] sp__law_order := by
  refine fun_okD T.F__law_order sc__law_order (fun ds G R h => ?_) (fun cdv A outer s H hr => ⟨_, (qss_cons (qs_set (i := 2) sc__law_order.nd rfl (.inl rfl) (qe_call (ok__law_draw T) (hr.mono (by omega)) rfl T.g__law_draw T.F__law_draw.kp T.b__law_draw (qa_cons (qv 1) (qa_cons qe_int qa_nil))))
      (qss_cons (qs_par2 (i := 3) (j := 4) rfl sc__law_order.nd rfl rfl (by decide) rfl rfl (qa_cons (qe_call (ok__law_place T) (hr.mono (by omega)) rfl T.g__law_place T.F__law_place.kp T.b__law_place (qa_cons (qv 0) (qa_cons (qv 1) qa_nil))) (qa_cons (qe_call (ok__law_place T) (hr.mono (by omega)) rfl T.g__law_place T.F__law_place.kp T.b__law_place (qa_cons (qv 0) (qa_cons (qv 1) qa_nil))) qa_nil)))
      (qss_cons (qs_set (i := 5) sc__law_order.nd rfl (.inl rfl) (qe_call (ok__law_place T) (hr.mono (by omega)) rfl T.g__law_place T.F__law_place.kp T.b__law_place (qa_cons (qv 0) (qa_cons (qv 1) qa_nil))))
      (qss_cons (qs_if (qt_cmp (od_ltE (room100 hr)) (qv 2) qe_int (nomark _))
      (qss_one (qs_ret (qe_tup (qa_cons qe_str (qa_cons (qe_ix xd_ix (qe_lst false (qa_cons qe_str (qa_cons qe_str (qa_cons qe_str (qa_cons qe_str (qa_cons qe_str (qa_cons qe_str (qa_cons qe_str qa_nil)))))))) (qe_call (ok__law_draw T) (hr.mono (by omega)) rfl T.g__law_draw T.F__law_draw.kp T.b__law_draw (qa_cons (qv 1) (qa_cons qe_int qa_nil))) (fun _ _ => rfl)) (qa_cons (qv 3) (qa_cons (qv 4) (qa_cons (qv 5) qa_nil))))))))
      qss_nil)
      (qss_cons (qs_if (qt_cmp (od_eq hr.units) (qv 2) qe_int (nomark _))
      (qss_one (qs_ret (qe_tup (qa_cons qe_str (qa_cons (qv 3) (qa_cons (qv 4) qa_nil))))))
      qss_nil)
      (qss_cons (qs_if (qt_cmp (od_ltE (room100 hr)) (qv 2) qe_int (nomark _))
      (qss_one (qs_ret (qe_tup (qa_cons qe_str (qa_cons (qv 3) (qa_cons (qe_call (ok__law_draw T) (hr.mono (by omega)) rfl T.g__law_draw T.F__law_draw.kp T.b__law_draw (qa_cons (qv 1) (qa_cons (qe_op od_shl qe_int (qe_ix xd_ix (qv 0) qe_int (fun _ _ => rfl))) qa_nil))) qa_nil))))))
      qss_nil)
      (qss_cons (qs_if (qt_cmp (od_eq hr.units) (qv 2) qe_int (nomark _))
      (qss_one (qs_ret (qe_tup (qa_cons qe_str (qa_cons (qv 3) (qa_cons (qv 4) qa_nil))))))
      qss_nil)
      (qss_one (qs_ret (qe_tup (qa_cons qe_str (qa_cons (qv 3) (qa_cons (qv 4) qa_nil))))))))))))), fun ds G R h => ?_⟩)
  · obtain ⟨s, M, n, o, rfl, _⟩ := h; rfl
  · obtain ⟨s, M, n, o, rfl, hM, hh, e, ho, hn, h⟩ := h
    have hb1 := hM.b1; have hb2 := hM.b2
    have hsh : CShl 1 M.b := shl_ok (by omega) (by omega)
    have htop := top_le hM.b1 hM.b2
    refine seq_cut (fun σ' G' => ∃ (way : Nat) (o1 : GO), σ' = [some M.d, some (.ref s), some (.int (way : Nat)), none, none, none] ∧ way < 9 ∧ BagO (n + 1) o1 ∧ G' = gup G s o1) ?_ (fun N1 hN1 => ?_)
    rotate_left
    · walk_at "go"
      rename_i r o1 hr ho1
      exact hN1 _ _ ⟨r, o1, rfl, by omega, ho1, rfl⟩
    rintro σ G1 ⟨way, o1, rfl, hw, ho1, rfl⟩
    walk_at "go"
    rename_i p1 o2 hp1 ho2 p2 o3 hp2 ho3 p3 o4 hp3 ho4
    split
    · refine ⟨small_line (by decide), ?_⟩
      walk_at "go"
      rename_i r5 o5 hr5 ho5
      refine pick (by walk_at "side") fun x hx => ?_
      obtain ⟨op, rfl, hop⟩ : ∃ op, x = .str op ∧ op ∈ opL := by
        simp only [List.mem_cons, List.not_mem_nil, or_false] at hx
        rcases hx with rfl | rfl | rfl | rfl | rfl | rfl | rfl <;> exact ⟨_, rfl, by simp [opL]⟩
      refine ⟨small_line (by decide), ?_⟩
      exact rt_same (h (.alu op p1 p2 p3) o5 ⟨hop, hp1, hp2, hp3⟩ (ho5.mono (by omega)))
    · walk_at "go"
      split
      · walk_at "go"
        exact h (.move p1 p2) o4 ⟨hp1, hp2⟩ (ho4.mono (by omega))
      · walk_at "go"
        split
        · dsimp only [Mach.d]
          walk_at "go"
          rename_i r5 o5 hr5 ho5
          exact h (.put p1 r5) o5 ⟨hp1, by show ((r5 : Nat) : Int) < 2 ^ M.b.toNat; omega⟩ (ho5.mono (by omega))
        · walk_at "go"
          split
          · walk_at "go"
            exact h (.load p1 p2) o4 ⟨hp1, hp2⟩ (ho4.mono (by omega))
          · walk_at "go"
            exact h (.store p1 p2) o4 ⟨hp1, hp2⟩ (ho4.mono (by omega))
theorem go_order {s : Addr} {M : Mach} {G : Gp} {R : DK} {o : GO} {n : Nat} (hM : M.ok) (hh : 1 ≤ M.h) (e : G s = some o) (h : BagO n o) (hn : n ≤ 940000) (k : ∀ (x : Ord) o', x.ok M → BagO (n + 8) o' → R x.d (gup G s o')) : sp__law_order [M.d, .ref s] G R := ⟨s, M, n, o, rfl, hM, hh, e, h, hn, k⟩
end K64


set_option Elab.async false
set_option linter.all false
set_option maxRecDepth 100000
set_option maxHeartbeats 4000000
set_option autoImplicit false
namespace K64
open PySem PySem.Spec PyProof.Rows L2 DL
local macro_rules | `(tactic| walk_at "d") => `(tactic| dsimp only [dSeq, dNext, dIfS, dRet, dRetN, dAsg, dName, dVar, dC, dOp, dUn, dChain, dB, dAnd, dOr, dNot, dAndV, dOrV, dNotV, dIf, dNil, dCons, dTup, dLst, newL, dCallB, dCall, dCallK, dDrop, dAug, dAugS, dSub, dM, dM0, dSlice, dNoPart, dPart, dLc, dYes, dFor, dIter, dRng1, dEnum, dZipM, srcD, dStar, dInK, dIxK, dLenSet, dRev,
  startD, wipeD, setAll, dNames, List.map_cons, List.map_nil, List.length_cons, List.length_nil, List.replicate, List.cons_append, List.nil_append, List.append_nil, List.getElem?_cons_zero, List.getElem?_cons_succ, List.set_cons_zero, List.set_cons_succ, List.map, Nat.zero_add, Nat.reduceAdd, Nat.reduceSub, Nat.sub_self, Nat.succ_sub_succ_eq_sub])
local macro_rules | `(tactic| walk_at "o") => `(tactic| simp only [dAdd_ii, dAdd_ss, dAdd_tt, dAdd_ll, dMinus_ii, dMul_ii, dMod_ii, dFdiv_ii, dPow_ii, dShl_ii, dNeg_i, dIadd_ii, dLt_ii, dLe_ii, dGt_ii, dGe_ii, dEq_ii, dNe_ii, dEq_ss, dNe_ss, dEq_bb, dNe_bb, dIs_n, dIsNot_n, dMax2_ii, dMin2_ii, dTuple_t, dTuple_l, dList_t, dList_l, dIx_t, dIx_l, dIx_s, dSl_t, dSl_l, dSl_s, newL_f, len_tup, len_lst])
local macro_rules | `(tactic| walk_at "w") => `(tactic| dsimp only [x_var, x_c, x_op, x_un, x_b, x_and, x_or, x_not, x_chain, x_andV, x_orV, x_notV, x_if, x_nil, x_cons, x_tup, x_lst0, x_lst1, x_callB, x_call, x_callK, x_next, x_seq, x_break, x_cont, x_drop, x_ret, x_ifS, x_asg, x_name, x_names, x_sub, x_aug, x_augS, x_for, x_lc0, x_lc1, x_yes, x_noPart, x_part, x_slice, x_iter, it_t, it_l, it_n, it_s, it_r, x_rng1, x_enum, x_rev, x_m, x_m0, x_mX, x_zip, x_star_t, x_star_l, x_lenSet, x_forgo0, x_lcgo0, x_while, x_par, x_sortK,
  br_t, br_f, isB_bl, isI_int, isN_some, slo_some, atL_lst, ix_t, ix_l, ix_n,
  dAdd_ii, dAdd_ss, dAdd_tt, dAdd_ll, dMinus_ii, dMul_ii, dMod_ii, dFdiv_ii, dPow_ii, dShl_ii, dNeg_i, dIadd_ii, dLt_ii, dLe_ii, dGt_ii, dGe_ii, ltE_ii, ltE_ss, srcD, isi_i, isi_s, isi_b, isi_n, isi_t, isi_nt, isi_l, isi2_i, isi2_s, isi2_b, isi2_n, isi2_t, isi2_nt, isi2_l, inon_n, inon_i, inon_s, inon_b, inon_t, inon_l, inon_r, dEq_ii, dNe_ii, dEq_ss, dNe_ss, dEq_bb, dNe_bb, dIs_n, dIsNot_n, dMax2_ii, dMin2_ii, dTuple_t, dTuple_l, dList_t, dList_l, dSl_t, dSl_l, dSl_s, newL_f, newL_t, app_r, int_b, int_i, strI_i, strX_i, strX_s,
  startD, wipeD, setAll, permL, List.filterMap, List.map_cons, List.map_nil, List.length_cons, List.length_nil, List.replicate, List.cons_append, List.nil_append, List.append_nil, List.getElem?_cons_zero, List.getElem?_cons_succ, List.set_cons_zero, List.set_cons_succ, List.map, Nat.zero_add, Nat.reduceAdd, Nat.reduceSub, Nat.sub_self, Nat.succ_sub_succ_eq_sub])
local macro_rules | `(tactic| walk_at "v") => `(tactic| simp only [ofString_inj, String.reduceEq, at_0, at_1, at_2, at_3, at_4, at_5, isN_some, isBB_bl, isB_bl, br_t, br_f, br_not, br_and, br_or, br_dec, ix_r, len_tup, len_lst, len_nt, ltE_key, gup_gup, gup_same, starD_one, cut1, cut2, kt1, kt2, kt3, kt4, kt5, kt6, isTy, String.reduceBEq, Bool.or_false, Bool.false_or, Bool.true_or, Bool.or_true, Bool.and_false, Bool.false_and, Bool.true_and, Bool.and_true, Bool.not_true, Bool.not_false, decide_true, decide_false, eq_self_iff_true, Bool.false_eq_true, Int.reduceAdd, Int.add_zero, if_true, if_false, true_and, and_true])
local macro_rules | `(tactic| walk_at "side") => `(tactic| first | with_reducible assumption | omega | exact mty_up | exact True.intro | (simp only [List.mem_cons, ofString_inj, String.reduceEq, true_or, or_true, List.length_map]; done) | with_reducible exact (rfl : (_ : Nat) = _) | exact (rfl : (_ : Option String) = _) | (refine small_line ?_; omega) | (walk_at "ll"; first | omega | (refine small_line ?_; omega) | fail) | (exact log_small (by omega)) | fail)
local macro_rules | `(tactic| walk_at "x") => `(tactic| fail)
local macro_rules | `(tactic| walk_at "go") => `(tactic| repeat' (first | dsimp only [x_var, x_c, x_op, x_un, x_b, x_and, x_or, x_not, x_chain, x_andV, x_orV, x_notV, x_if, x_nil, x_cons, x_tup, x_lst0, x_lst1, x_callB, x_call, x_callK, x_next, x_seq, x_break, x_cont, x_drop, x_ret, x_ifS, x_asg, x_name, x_names, x_sub, x_aug, x_augS, x_for, x_lc0, x_lc1, x_yes, x_noPart, x_part, x_slice, x_iter, it_t, it_l, it_n, it_s, it_r, x_rng1, x_enum, x_rev, x_m, x_m0, x_mX, x_zip, x_star_t, x_star_l, x_lenSet, x_forgo0, x_lcgo0, x_while, x_par, x_sortK, br_t, br_f, isB_bl, isI_int, isN_some, slo_some, atL_lst, ix_t, ix_l, ix_n, dAdd_ii, dAdd_ss, dAdd_tt, dAdd_ll, dMinus_ii, dMul_ii, dMod_ii, dFdiv_ii, dPow_ii, dShl_ii, dNeg_i, dIadd_ii, dLt_ii, dLe_ii, dGt_ii, dGe_ii, ltE_ii, ltE_ss, srcD, isi_i, isi_s, isi_b, isi_n, isi_t, isi_nt, isi_l, isi2_i, isi2_s, isi2_b, isi2_n, isi2_t, isi2_nt, isi2_l, inon_n, inon_i, inon_s, inon_b, inon_t, inon_l, inon_r, dEq_ii, dNe_ii, dEq_ss, dNe_ss, dEq_bb, dNe_bb, dIs_n, dIsNot_n, dMax2_ii, dMin2_ii, dTuple_t, dTuple_l, dList_t, dList_l, dSl_t, dSl_l, dSl_s, newL_f, newL_t, app_r, int_b, int_i, strI_i, strX_i, strX_s, startD, wipeD, setAll, permL, List.filterMap, List.map_cons, List.map_nil, List.length_cons, List.length_nil, List.replicate, List.cons_append, List.nil_append, List.append_nil, List.getElem?_cons_zero, List.getElem?_cons_succ, List.set_cons_zero, List.set_cons_succ, List.map, Nat.zero_add, Nat.reduceAdd, Nat.reduceSub, Nat.sub_self, Nat.succ_sub_succ_eq_sub] | simp only [ofString_inj, String.reduceEq, at_0, at_1, at_2, at_3, at_4, at_5, isN_some, isBB_bl, isB_bl, br_t, br_f, br_not, br_and, br_or, br_dec, ix_r, len_tup, len_lst, len_nt, ltE_key, gup_gup, gup_same, starD_one, cut1, cut2, kt1, kt2, kt3, kt4, kt5, kt6, isTy, String.reduceBEq, Bool.or_false, Bool.false_or, Bool.true_or, Bool.or_true, Bool.and_false, Bool.false_and, Bool.true_and, Bool.and_true, Bool.not_true, Bool.not_false, decide_true, decide_false, eq_self_iff_true, Bool.false_eq_true, Int.reduceAdd, Int.add_zero, if_true, if_false, true_and, and_true] | walk_at "x" | with_reducible refine kont_go ?_ | with_reducible refine rt_sub (by assumption) ?_ | with_reducible refine rt_lst (by assumption) ?_ | with_reducible refine rt_drop (by assumption) ?_ | with_reducible refine rt_keep (by assumption) (by assumption) ?_ | with_reducible refine rt_same ?_ | (refine fun (p : Addr) (_ : _ = none) => ?_) | refine join_gor gup_same rfl (by walk_at "side") ?_ | with_reducible refine lc_cons ?_ | with_reducible refine for_cons ?_ | refine join_go rfl (by walk_at "side") ?_ | refine And.intro (by first | with_reducible assumption | omega | exact mty_up | exact True.intro | (simp only [List.mem_cons, ofString_inj, String.reduceEq, true_or, or_true, List.length_map]; done) | with_reducible exact (rfl : (_ : Nat) = _) | exact (rfl : (_ : Option String) = _) | (refine small_line ?_; omega) | (walk_at "ll"; first | omega | (refine small_line ?_; omega) | fail) | (exact log_small (by omega)) | fail) ?_ | fail))
local macro_rules | `(tactic| walk_at "ll") => `(tactic| simp only [List.length_map, List.length_append, List.length_cons, List.length_nil, List.map_cons, List.map_nil, List.sum_cons, List.sum_nil, len_app, rng_length, ll_0, ll_1, ll_2, ll_3, ll_4, ll_5, ll_6, ll_7, ll_8, ll_9, ll_10, ll_11, ll_12, ll_13, ll_14, ll_15, ll_16, ll_17, ll_18, ll_19, ll_20, ll_21, ll_22, ll_23, ll_24, ll_25, ll_26, ll_27])
def sp__law_text : DSp := fun ds G R => ∃ o : Ord, ds = [o.d] ∧ o.small ∧ R (.str o.txt) G
local macro_rules | `(tactic| walk_at "x") => `(tactic| fail)
theorem ok__law_text {P : Program} {w : World} {K : PySem.W.Frag} {mg : Str → Option Value} {base : Heap} {a : Ad} (T : TxB w K mg base a) : FnD P w K mg base 1 a.f__law_text a.fd__law_text ["order"] sp__law_text := by
  refine fun_okD T.F__law_text sc__law_text (fun ds G R h => ?_) (fun cdv A outer s H hr => ⟨_, (qss_cons (qs_set (i := 1) sc__law_text.nd rfl (.inl rfl) (qe_lst true qa_nil))
      (qss_cons (qs_for PassesOwn.never rfl (qi_seq (qv 0)) (qg_of (pg_name (i := 2) sc__law_text.nd rfl (.inl rfl)) (tg_name (i := 2) (ws := [2]) (by decide)))
      (qss_one (qs_if (qt_val (qe_callB cd_isiX rfl T.n_isinstance (by decide +kernel) (qa_cons (qv 2) (qa_cons (qe_ty (n := "tuple") rfl T.n_tuple (by decide +kernel)) qa_nil))))
      (qss_one (qs_expr (qe_m PySem.F.plainAttrs_list PySem.F.slot_list_append PySem.F.type_list_append md_append (qv 1) (qa_cons (qe_ix xd_ix (qe_lst false (qa_cons (qe_callTy cd_strX rfl T.n_str (by decide +kernel) (qa_cons (qe_ix xd_ix (qv 2) qe_int (fun _ _ => rfl)) qa_nil)) (qa_cons (qe_op (od_add false) qe_str (qe_callTy cd_strX rfl T.n_str (by decide +kernel) (qa_cons (qe_ix xd_ix (qv 2) qe_int (fun _ _ => rfl)) qa_nil))) qa_nil))) (qe_callTy cd_int rfl T.n_int (by decide +kernel) (qa_cons (qe_cmp (od_eq hr.units) (qe_ix xd_ix (qv 2) qe_int (fun _ _ => rfl)) qe_str (nomark _)) qa_nil)) (fun _ _ => rfl)) qa_nil))))
      (qss_one (qs_expr (qe_m PySem.F.plainAttrs_list PySem.F.slot_list_append PySem.F.type_list_append md_append (qv 1) (qa_cons (qe_callTy cd_strX rfl T.n_str (by decide +kernel) (qa_cons (qv 2) qa_nil)) qa_nil)))))))
      (qss_one (qs_ret (qe_m PySem.F.plainAttrs_str PySem.F.slot_str_join PySem.F.type_str_join md_join qe_str (qa_cons (qv 1) qa_nil)))))), fun ds G R h => ?_⟩)
  · obtain ⟨p, rfl, _⟩ := h; rfl
  · obtain ⟨o, rfl, ho, h⟩ := h
    have hps := Ord.parts_small ho
    have hfit := words_fit ho
    have hpl := o.parts_len
    rw [Ord.txt_eq, show o.kind :: o.parts.map Prt.txt = (Prt.wrd o.kind :: o.parts).map Prt.txt from rfl] at h
    rw [show o.kind :: o.parts.map Prt.txt = (Prt.wrd o.kind :: o.parts).map Prt.txt from rfl] at hfit
    rw [Ord.d_eq, show D.str o.kind :: o.parts.map Prt.d = (Prt.wrd o.kind :: o.parts).map Prt.d from rfl]
    have hps2 : ∀ q ∈ Prt.wrd o.kind :: o.parts, (∀ p, q = .plc p → p.small) ∧ (∀ w, q = .num w → w ≤ 1000) := fun q hq => by
      rcases List.mem_cons.mp hq with rfl | hq
      · exact ⟨fun _ e => (by cases e), fun _ e => (by cases e)⟩
      · exact ⟨fun p e => (by subst e; exact hps _ hq), fun p e => (by subst e; exact hps _ hq)⟩
    have hpl2 : (Prt.wrd o.kind :: o.parts).length ≤ 5 := by simp only [List.length_cons]; omega
    generalize Prt.wrd o.kind :: o.parts = qs at h hfit hps2 hpl2 ⊢
    walk_at "go"
    rename_i p np
    refine for_lst Prt.d qs (fun k σ' G' => ∃ x2, σ' = [some (.tup (qs.map Prt.d)), some (.ref p), x2] ∧ Sub G G' ∧ G' p = some (.lst ((qs.take k).map fun q => D.str q.txt))) ?turn ?fin _ _ ⟨none, rfl, Sub.new np, gup_same⟩
    case fin =>
      rintro σ' G' ⟨x2, rfl, hs, ep⟩
      rw [List.take_length] at ep
      walk_at "go"
      have et : (qs.map fun q => D.str q.txt) = (qs.map Prt.txt).map D.str := by rw [List.map_map]; rfl
      rw [et] at ep
      exact join_gor ep (strsOf_strs _) hfit (rt_sub hs h)
    case turn =>
      rintro k q σ' G' hq ⟨x2, rfl, hs, ep⟩ N hN
      have hqm := List.mem_of_getElem? hq
      have hkl := (List.getElem?_eq_some_iff.mp hq).1
      have fin : ∀ G2, G2 = gup G' p (.lst ((qs.take k).map (fun q => D.str q.txt) ++ [D.str q.txt])) → N [some (.tup (qs.map Prt.d)), some (.ref p), some q.d] G2 := fun G2 e => hN _ _ ⟨_, rfl, by rw [e]; exact Sub.put hs np, by rw [e, gup_same, List.take_succ, hq]; simp⟩
      cases q with
      | plc pl =>
        have hp := (hps2 _ hqm).1 pl rfl
        dsimp only [Prt.d]
        walk_at "go"
        simp only [isi_plc]
        walk_at "go"
        refine ⟨mty_at ep, ?_⟩
        cases pl with
        | reg z =>
          have hz : z.length ≤ 100 := hp
          dsimp only [Plc.d] at fin ⊢
          walk_at "go"
          rw [ep, atL_lst]
          refine ⟨small_line (by rw [List.length_map, List.length_take]; omega), ?_⟩
          exact fin _ rfl
        | hid j =>
          have hj : j ≤ 1000 := hp
          have := len_num (k := j) hj
          dsimp only [Plc.d] at fin ⊢
          walk_at "go"
          rw [ep, atL_lst]
          refine ⟨small_line (by rw [List.length_map, List.length_take]; omega), ?_⟩
          exact fin _ rfl
      | num w =>
        have hw := (hps2 _ hqm).2 w rfl
        dsimp only [Prt.d]; walk_at "go"
        have := len_num (k := w) hw
        refine ⟨mty_at ep, by walk_at "side", ?_⟩
        rw [ep, atL_lst]
        refine ⟨small_line (by rw [List.length_map, List.length_take]; omega), ?_⟩
        exact fin _ rfl
      | wrd z =>
        dsimp only [Prt.d]
        walk_at "go"
        refine ⟨mty_at ep, ?_⟩
        rw [ep, atL_lst]
        refine ⟨small_line (by rw [List.length_map, List.length_take]; omega), ?_⟩
        exact fin _ rfl
theorem go_text {o : Ord} {G : Gp} {R : DK} (h : o.small) (k : R (.str o.txt) G) : sp__law_text [o.d] G R := ⟨o, rfl, h, k⟩
/-- what an order writes, by the law's own words: nothing for the memory -/
def dstL (o : Ord) : D := match o.dst with | some p => p.d | none => .tup []
def sp__law_to : DSp := fun ds G R => ∃ o : Ord, ds = [o.d] ∧ R (dstL o) G
theorem ok__law_to {P : Program} {w : World} {K : PySem.W.Frag} {mg : Str → Option Value} {base : Heap} {a : Ad} (T : TxB w K mg base a) : FnD P w K mg base 1 a.f__law_to a.fd__law_to ["order"] sp__law_to := by
  refine fun_okD T.F__law_to sc__law_to (fun ds G R h => ?_) (fun cdv A outer s H hr => ⟨_, (qss_cons (qs_if (qt_cmp (od_eq hr.units) (qe_ix xd_ix (qv 0) qe_int (fun _ _ => rfl)) qe_str (nomark _))
      (qss_one (qs_ret (qe_tup qa_nil)))
      qss_nil)
      (qss_one (qs_ret (qe_ix xd_ix (qv 0) (qe_op (od_add false) qe_int (qe_callTy cd_int rfl T.n_int (by decide +kernel) (qa_cons (qe_cmp (od_eq hr.units) (qe_ix xd_ix (qv 0) qe_int (fun _ _ => rfl)) qe_str (nomark _)) qa_nil))) (fun _ _ => rfl))))), fun ds G R h => ?_⟩)
  · obtain ⟨p, rfl, _⟩ := h; rfl
  · obtain ⟨o, rfl, h⟩ := h
    cases o <;> (dsimp only [Ord.d]; walk_at "go"; exact h)
theorem go_to {o : Ord} {G : Gp} {R : DK} (k : R (dstL o) G) : sp__law_to [o.d] G R := ⟨o, rfl, k⟩
mutual
/-- data of no great lengths -/
def wid : D → Bool
  | .tup ds => decide (ds.length ≤ 1000) && wids ds
  | .lst ds => decide (ds.length ≤ 1000) && wids ds
  | _ => true
def wids : List D → Bool
  | [] => true
  | d :: ds => wid d && wids ds
end
theorem eqD_plc (p q : Plc) : eqD p.d q.d = decide (p = q) := by
  cases p <;> cases q <;> simp only [Plc.d, eq_tt, eqs_cons, eqs_nil, eq_s, eq_i, ofString_inj, String.reduceEq, decide_true, decide_false, Bool.and_true, Bool.true_and, Bool.false_and, Plc.reg.injEq, Plc.hid.injEq, reduceCtorEq, Int.natCast_inj]
theorem Plc.py {M : Mach} (hM : M.ok) {p : Plc} (h : p.ok M) : pyD p.d = true ∧ wid p.d = true ∧ depD p.d = 1 := by
  cases p with
  | reg x =>
    have hx := name_py (hM.nm.1 x h)
    have h0 : pyD (.str "reg") = true := by decide +kernel
    simp only [Plc.d, pyD, pyDs, wid, wids, depD, depDs] at hx h0 ⊢
    simp [hx, h0]
  | hid k =>
    have h0 : pyD (.str "hid") = true := by decide +kernel
    simp only [Plc.d, pyD, pyDs, wid, wids, depD, depDs] at h0 ⊢
    simp [h0]
theorem op_py : ∀ op ∈ opL, pyD (.str op) = true := by decide +kernel
theorem Ord.py {M : Mach} (hM : M.ok) {o : Ord} (h : o.ok M) : pyD o.d = true ∧ wid o.d = true ∧ depD o.d ≤ 2 := by
  have k1 : pyD (.str "alu") = true := by decide +kernel
  have k2 : pyD (.str "move") = true := by decide +kernel
  have k3 : pyD (.str "put") = true := by decide +kernel
  have k4 : pyD (.str "load") = true := by decide +kernel
  have k5 : pyD (.str "store") = true := by decide +kernel
  cases o with
  | alu op to a b =>
    obtain ⟨h0, h1, h2, h3⟩ := h
    have h1 := Plc.py hM h1; have h2 := Plc.py hM h2; have h3 := Plc.py hM h3
    have h0 := op_py op h0
    simp only [Ord.d, pyD, pyDs, wid, wids, depD, depDs] at k1 h0 ⊢
    simp [h1, h2, h3, k1, h0]
  | put to w =>
    have h1 := Plc.py hM h.1
    simp only [Ord.d, pyD, pyDs, wid, wids, depD, depDs] at k3 ⊢
    simp [h1, k3]
  | _ =>
    have h1 := Plc.py hM h.1; have h2 := Plc.py hM h.2
    simp only [Ord.d, pyD, pyDs, wid, wids, depD, depDs] at k2 k4 k5 ⊢
    simp [h1, h2, k2, k4, k5]
theorem Plc.ky (p : Plc) : kyD p.d = true ∧ depD p.d ≤ 8 := by cases p <;> simp [Plc.d, kyD, kyDs, depD, depDs]
theorem Ord.ky (o : Ord) : kyD o.d = true ∧ depD o.d ≤ 8 := by
  cases o with
  | alu op to a b =>
    have h1 := Plc.ky to; have h2 := Plc.ky a; have h3 := Plc.ky b
    have d1 : ∀ p : Plc, depD p.d = 1 := fun p => by cases p <;> simp [Plc.d, depD, depDs]
    simp [Ord.d, kyD, kyDs, depD, depDs, h1.1, h2.1, h3.1, d1]
  | _ =>
    rename_i a b
    have h1 := Plc.ky a
    have d1 : ∀ p : Plc, depD p.d = 1 := fun p => by cases p <;> simp [Plc.d, depD, depDs]
    first
      | (have h2 := Plc.ky b; simp [Ord.d, kyD, kyDs, depD, depDs, h1.1, h2.1, d1])
      | simp [Ord.d, kyD, kyDs, depD, depDs, h1.1, d1]
end K64


set_option Elab.async false
set_option linter.all false
set_option maxRecDepth 100000
set_option maxHeartbeats 4000000
set_option autoImplicit false
namespace K64
open PySem PySem.Spec PyProof.Rows L2 DL
local macro_rules | `(tactic| walk_at "d") => `(tactic| dsimp only [dSeq, dNext, dIfS, dRet, dRetN, dAsg, dName, dVar, dC, dOp, dUn, dChain, dB, dAnd, dOr, dNot, dAndV, dOrV, dNotV, dIf, dNil, dCons, dTup, dLst, newL, dCallB, dCall, dCallK, dDrop, dAug, dAugS, dSub, dM, dM0, dSlice, dNoPart, dPart, dLc, dYes, dFor, dIter, dRng1, dEnum, dZipM, srcD, dStar, dInK, dIxK, dLenSet, dRev,
  startD, wipeD, setAll, dNames, List.map_cons, List.map_nil, List.length_cons, List.length_nil, List.replicate, List.cons_append, List.nil_append, List.append_nil, List.getElem?_cons_zero, List.getElem?_cons_succ, List.set_cons_zero, List.set_cons_succ, List.map, Nat.zero_add, Nat.reduceAdd, Nat.reduceSub, Nat.sub_self, Nat.succ_sub_succ_eq_sub])
local macro_rules | `(tactic| walk_at "o") => `(tactic| simp only [dAdd_ii, dAdd_ss, dAdd_tt, dAdd_ll, dMinus_ii, dMul_ii, dMod_ii, dFdiv_ii, dPow_ii, dShl_ii, dNeg_i, dIadd_ii, dLt_ii, dLe_ii, dGt_ii, dGe_ii, dEq_ii, dNe_ii, dEq_ss, dNe_ss, dEq_bb, dNe_bb, dIs_n, dIsNot_n, dMax2_ii, dMin2_ii, dTuple_t, dTuple_l, dList_t, dList_l, dIx_t, dIx_l, dIx_s, dSl_t, dSl_l, dSl_s, newL_f, len_tup, len_lst])
local macro_rules | `(tactic| walk_at "w") => `(tactic| dsimp only [x_var, x_c, x_op, x_un, x_b, x_and, x_or, x_not, x_chain, x_andV, x_orV, x_notV, x_if, x_nil, x_cons, x_tup, x_lst0, x_lst1, x_callB, x_call, x_callK, x_next, x_seq, x_break, x_cont, x_drop, x_ret, x_ifS, x_asg, x_name, x_names, x_sub, x_aug, x_augS, x_for, x_lc0, x_lc1, x_yes, x_noPart, x_part, x_slice, x_iter, it_t, it_l, it_n, it_s, it_r, x_rng1, x_enum, x_rev, x_m, x_m0, x_mX, x_zip, x_star_t, x_star_l, x_lenSet, x_forgo0, x_lcgo0, x_while, x_par, x_sortK,
  br_t, br_f, isB_bl, isI_int, isN_some, slo_some, atL_lst, ix_t, ix_l, ix_n,
  dAdd_ii, dAdd_ss, dAdd_tt, dAdd_ll, dMinus_ii, dMul_ii, dMod_ii, dFdiv_ii, dPow_ii, dShl_ii, dNeg_i, dIadd_ii, dLt_ii, dLe_ii, dGt_ii, dGe_ii, ltE_ii, ltE_ss, srcD, isi_i, isi_s, isi_b, isi_n, isi_t, isi_nt, isi_l, isi2_i, isi2_s, isi2_b, isi2_n, isi2_t, isi2_nt, isi2_l, inon_n, inon_i, inon_s, inon_b, inon_t, inon_l, inon_r, dEq_ii, dNe_ii, dEq_ss, dNe_ss, dEq_bb, dNe_bb, dIs_n, dIsNot_n, dMax2_ii, dMin2_ii, dTuple_t, dTuple_l, dList_t, dList_l, dSl_t, dSl_l, dSl_s, newL_f, newL_t, app_r, int_b, int_i, strI_i, strX_i, strX_s,
  startD, wipeD, setAll, permL, List.filterMap, List.map_cons, List.map_nil, List.length_cons, List.length_nil, List.replicate, List.cons_append, List.nil_append, List.append_nil, List.getElem?_cons_zero, List.getElem?_cons_succ, List.set_cons_zero, List.set_cons_succ, List.map, Nat.zero_add, Nat.reduceAdd, Nat.reduceSub, Nat.sub_self, Nat.succ_sub_succ_eq_sub])
local macro_rules | `(tactic| walk_at "v") => `(tactic| simp only [ofString_inj, String.reduceEq, at_0, at_1, at_2, at_3, at_4, at_5, isN_some, isBB_bl, isB_bl, br_t, br_f, br_not, br_and, br_or, br_dec, ix_r, len_tup, len_lst, len_nt, ltE_key, gup_gup, gup_same, starD_one, cut1, cut2, kt1, kt2, kt3, kt4, kt5, kt6, isTy, String.reduceBEq, Bool.or_false, Bool.false_or, Bool.true_or, Bool.or_true, Bool.and_false, Bool.false_and, Bool.true_and, Bool.and_true, Bool.not_true, Bool.not_false, decide_true, decide_false, eq_self_iff_true, Bool.false_eq_true, Int.reduceAdd, Int.add_zero, if_true, if_false, true_and, and_true])
local macro_rules | `(tactic| walk_at "side") => `(tactic| first | with_reducible assumption | omega | exact mty_up | exact True.intro | (simp only [List.mem_cons, ofString_inj, String.reduceEq, true_or, or_true, List.length_map]; done) | with_reducible exact (rfl : (_ : Nat) = _) | exact (rfl : (_ : Option String) = _) | (refine small_line ?_; omega) | (walk_at "ll"; first | omega | (refine small_line ?_; omega) | fail) | (exact log_small (by omega)) | fail)
local macro_rules | `(tactic| walk_at "x") => `(tactic| fail)
local macro_rules | `(tactic| walk_at "go") => `(tactic| repeat' (first | dsimp only [x_var, x_c, x_op, x_un, x_b, x_and, x_or, x_not, x_chain, x_andV, x_orV, x_notV, x_if, x_nil, x_cons, x_tup, x_lst0, x_lst1, x_callB, x_call, x_callK, x_next, x_seq, x_break, x_cont, x_drop, x_ret, x_ifS, x_asg, x_name, x_names, x_sub, x_aug, x_augS, x_for, x_lc0, x_lc1, x_yes, x_noPart, x_part, x_slice, x_iter, it_t, it_l, it_n, it_s, it_r, x_rng1, x_enum, x_rev, x_m, x_m0, x_mX, x_zip, x_star_t, x_star_l, x_lenSet, x_forgo0, x_lcgo0, x_while, x_par, x_sortK, br_t, br_f, isB_bl, isI_int, isN_some, slo_some, atL_lst, ix_t, ix_l, ix_n, dAdd_ii, dAdd_ss, dAdd_tt, dAdd_ll, dMinus_ii, dMul_ii, dMod_ii, dFdiv_ii, dPow_ii, dShl_ii, dNeg_i, dIadd_ii, dLt_ii, dLe_ii, dGt_ii, dGe_ii, ltE_ii, ltE_ss, srcD, isi_i, isi_s, isi_b, isi_n, isi_t, isi_nt, isi_l, isi2_i, isi2_s, isi2_b, isi2_n, isi2_t, isi2_nt, isi2_l, inon_n, inon_i, inon_s, inon_b, inon_t, inon_l, inon_r, dEq_ii, dNe_ii, dEq_ss, dNe_ss, dEq_bb, dNe_bb, dIs_n, dIsNot_n, dMax2_ii, dMin2_ii, dTuple_t, dTuple_l, dList_t, dList_l, dSl_t, dSl_l, dSl_s, newL_f, newL_t, app_r, int_b, int_i, strI_i, strX_i, strX_s, startD, wipeD, setAll, permL, List.filterMap, List.map_cons, List.map_nil, List.length_cons, List.length_nil, List.replicate, List.cons_append, List.nil_append, List.append_nil, List.getElem?_cons_zero, List.getElem?_cons_succ, List.set_cons_zero, List.set_cons_succ, List.map, Nat.zero_add, Nat.reduceAdd, Nat.reduceSub, Nat.sub_self, Nat.succ_sub_succ_eq_sub] | simp only [ofString_inj, String.reduceEq, at_0, at_1, at_2, at_3, at_4, at_5, isN_some, isBB_bl, isB_bl, br_t, br_f, br_not, br_and, br_or, br_dec, ix_r, len_tup, len_lst, len_nt, ltE_key, gup_gup, gup_same, starD_one, cut1, cut2, kt1, kt2, kt3, kt4, kt5, kt6, isTy, String.reduceBEq, Bool.or_false, Bool.false_or, Bool.true_or, Bool.or_true, Bool.and_false, Bool.false_and, Bool.true_and, Bool.and_true, Bool.not_true, Bool.not_false, decide_true, decide_false, eq_self_iff_true, Bool.false_eq_true, Int.reduceAdd, Int.add_zero, if_true, if_false, true_and, and_true] | walk_at "x" | with_reducible refine kont_go ?_ | with_reducible refine rt_sub (by assumption) ?_ | with_reducible refine rt_lst (by assumption) ?_ | with_reducible refine rt_drop (by assumption) ?_ | with_reducible refine rt_keep (by assumption) (by assumption) ?_ | with_reducible refine rt_same ?_ | (refine fun (p : Addr) (_ : _ = none) => ?_) | refine join_gor gup_same rfl (by walk_at "side") ?_ | with_reducible refine lc_cons ?_ | with_reducible refine for_cons ?_ | refine join_go rfl (by walk_at "side") ?_ | refine And.intro (by first | with_reducible assumption | omega | exact mty_up | exact True.intro | (simp only [List.mem_cons, ofString_inj, String.reduceEq, true_or, or_true, List.length_map]; done) | with_reducible exact (rfl : (_ : Nat) = _) | exact (rfl : (_ : Option String) = _) | (refine small_line ?_; omega) | (walk_at "ll"; first | omega | (refine small_line ?_; omega) | fail) | (exact log_small (by omega)) | fail) ?_ | fail))
local macro_rules | `(tactic| walk_at "ll") => `(tactic| simp only [List.length_map, List.length_append, List.length_cons, List.length_nil, List.map_cons, List.map_nil, List.sum_cons, List.sum_nil, len_app, rng_length, ll_0, ll_1, ll_2, ll_3, ll_4, ll_5, ll_6, ll_7, ll_8, ll_9, ll_10, ll_11, ll_12, ll_13, ll_14, ll_15, ll_16, ll_17, ll_18, ll_19, ll_20, ll_21, ll_22, ll_23, ll_24, ll_25, ll_26, ll_27])
theorem keys_go {sp : DSp} {G : Gp} {Q : List D → Gp → Prop} (hs : ∀ (o : Ord) (R : DK), o.small → R (.tup [.int o.kix, .str o.txt]) G → sp [o.d] G R) : ∀ (os : List Ord) (acc : List D), (∀ o ∈ os, o.small) → Q (acc ++ os.map fun o => .tup [.int o.kix, .str o.txt]) G → dKeys sp (os.map Ord.d) acc G Q
  | [], acc, _, q => by simpa [dKeys] using q
  | o :: os, acc, h, q => by
    simp only [List.map_cons, dKeys]
    refine hs o _ (h o (List.mem_cons_self ..)) (keys_go hs os _ (fun x hx => h x (List.mem_cons_of_mem _ hx)) ?_)
    simpa using q
theorem keysP_ords : ∀ os : List Ord, keysP (os.map fun o => .tup [.int o.kix, .str o.txt]) = some (os.map Ord.key)
  | [] => rfl
  | o :: os => by simp only [List.map_cons, keysP, keyP, keysP_ords os]; rfl
/-- a row's orders, by their order -/
def sortO (os : List Ord) : List Ord := sortK os (os.map Ord.key)
theorem sortK_goS {mk : Bool} {sp : DSp} {x : D} {G : Gp} {R : DK} {os : List Ord} (e : seqOf G x = some (os.map Ord.d)) (hs : ∀ (o : Ord) (R : DK), o.small → R (.tup [.int o.kix, .str o.txt]) G → sp [o.d] G R) (hsm : ∀ o ∈ os, o.small) (h : newL mk ((sortO os).map Ord.d) G R) : dSortK1 mk sp x G R := by
  unfold dSortK1
  rw [e]
  refine keys_go hs os [] hsm ?_
  simp only [List.nil_append, keysP_ords]
  refine ⟨by simp, ?_⟩
  rw [← sortK_proj]
  exact h
theorem sortK_go {mk : Bool} {sp : DSp} {x : D} {G : Gp} {R : DK} {os : List Ord} (e : lstOf G x = some (os.map Ord.d)) (hs : ∀ (o : Ord) (R : DK), o.small → R (.tup [.int o.kix, .str o.txt]) G → sp [o.d] G R) (hsm : ∀ o ∈ os, o.small) (h : newL mk ((sortO os).map Ord.d) G R) : dSortK1 mk sp x G R := sortK_goS (seqOf_of_lst e) hs hsm h
theorem ix_kind (o : Ord) {G : Gp} {R : DK} : dIndexL (.lst [.str "alu", .str "move", .str "put", .str "load", .str "store"]) [.str o.kind] G R = R (.int o.kix) G := by
  have hd : depD (.str o.kind) ≤ 60 := by simp [depD]
  have all : ∀ q ∈ ([("alu", 0), ("move", 1), ("put", 2), ("load", 3), ("store", 4)] : List (Str × Int)), pyD (.str q.1) = true ∧ pyDs [.str "alu", .str "move", .str "put", .str "load", .str "store"] = true ∧ ([D.str "alu", .str "move", .str "put", .str "load", .str "store"].any fun z => eqD z (.str q.1)) = true ∧ (([D.str "alu", .str "move", .str "put", .str "load", .str "store"].findIdx fun z => eqD z (.str q.1) : Nat) : Int) = q.2 := by decide +kernel
  have key := all (o.kind, o.kix) (by cases o <;> simp [Ord.kind, Ord.kix])
  obtain ⟨k1, k2, k3, k4⟩ := key
  refine propext ⟨fun h => ?_, fun h => ⟨k1, k2, hd, k3, ?_⟩⟩
  · have := h.2.2.2.2; rw [k4] at this; exact this
  · rw [k4]; exact h
theorem nodup_spots : ∀ {os : List Ord}, (spots os).Nodup → cntO "store" os ≤ 1 → os.Nodup
  | [], _, _ => List.nodup_nil
  | o :: os, h1, h2 => by
    have hs : spots (o :: os) = o.to ++ spots os := by unfold spots; rw [List.flatMap_cons]
    rw [hs] at h1
    rw [cnt_cons] at h2
    have ih := nodup_spots (os := os) (List.nodup_append.mp h1).2.1 (by omega)
    refine List.nodup_cons.mpr ⟨fun hm => ?_, ih⟩
    have hd : ∀ p ∈ o.to, p ∈ spots os := fun p hp => List.mem_flatMap.mpr ⟨o, hm, hp⟩
    by_cases hk : o.kind = "store"
    · rw [if_pos hk] at h2
      have : 0 < cntO "store" os := List.countP_pos_iff.mpr ⟨o, hm, decide_eq_true hk⟩
      omega
    · have : ∃ p, p ∈ o.to := by
        cases o with
        | store a b => exact absurd rfl hk
        | alu op t a b => exact ⟨t, List.mem_singleton.mpr rfl⟩
        | move t a => exact ⟨t, List.mem_singleton.mpr rfl⟩
        | put t w => exact ⟨t, List.mem_singleton.mpr rfl⟩
        | load t a => exact ⟨t, List.mem_singleton.mpr rfl⟩
      obtain ⟨p, hp⟩ := this
      exact (List.nodup_append.mp h1).2.2 p hp p (hd p hp) rfl
theorem plc_py {M : Mach} (hM : M.ok) {p : Plc} (h : p.ok M) : pyD p.d = true := by
  cases p with
  | hid k =>
    have r : pyD (.str "hid") = true := py_of "hid"
    unfold Plc.d
    simp only [pyD, pyDs, Bool.and_eq_true] at r ⊢
    exact ⟨r, trivial, trivial⟩
  | reg x =>
    have hx := nameOk_iff.mp (hM.nm.ok x h)
    have : pyD (.str x) = true := by
      rw [py_str]
      intro c hc
      have := hx.2 c hc
      simp only [low, Bool.and_eq_true, decide_eq_true_eq] at this
      omega
    have r : pyD (.str "reg") = true := py_of "reg"
    unfold Plc.d
    simp only [pyD, pyDs, Bool.and_eq_true] at this r ⊢
    exact ⟨r, this, trivial⟩
theorem spots_app (a b : List Ord) : spots (a ++ b) = spots a ++ spots b := by unfold spots; rw [List.flatMap_append]
theorem inE_L {f : Bool → Bool} {x : D} {ds : List D} {G : Gp} {R : DK} (hn : ∀ z, x ≠ .str z) (h1 : pyD x = true) (h2 : pyDs ds = true) (h3 : depD x ≤ 60) (k : R (.bl (f (ds.any fun z => eqD z x))) G) : dInE f x (.lst ds) G R := by
  cases x with
  | str z => exact absurd rfl (hn z)
  | _ => exact ⟨h1, h2, h3, k⟩
theorem dsts_pyL {M : Mach} (hM : M.ok) : ∀ {os : List Ord}, (∀ o ∈ os, o.ok M) → pyDs (os.map dstL) = true
  | [], _ => rfl
  | o :: os, h => by
    simp only [List.map_cons, pyDs, Bool.and_eq_true]
    refine ⟨?_, dsts_pyL hM fun x hx => h x (List.mem_cons_of_mem _ hx)⟩
    have ho := h o List.mem_cons_self
    cases o with
    | store a b => rfl
    | alu op t a b => exact plc_py hM ho.2.1
    | move t a => exact plc_py hM ho.1
    | put t a => exact plc_py hM ho.1
    | load t a => exact plc_py hM ho.1
theorem to_noneL {o : Ord} (h : o.dst = none) : o.to = [] := by cases o <;> first | rfl | cases h
theorem to_someL {o : Ord} {p : Plc} (h : o.dst = some p) : o.to = [p] := by cases o <;> first | (cases h; rfl) | cases h
theorem in_dstL {os : List Ord} {p : Plc} : ((os.map dstL).any fun z => eqD z p.d) = decide (p ∈ spots os) := by
  rw [Bool.eq_iff_iff, List.any_eq_true, decide_eq_true_eq]
  unfold spots
  rw [List.mem_flatMap]
  constructor
  · rintro ⟨z, hz, h⟩
    obtain ⟨o, ho, rfl⟩ := List.mem_map.mp hz
    refine ⟨o, ho, ?_⟩
    cases o with
    | store a b => cases p <;> simp [dstL, Ord.dst, Plc.d, eqD, eqDs] at h
    | alu op t a b => rw [show dstL (.alu op t a b) = t.d from rfl, eqD_plc, decide_eq_true_eq] at h; exact List.mem_singleton.mpr h.symm
    | move t a => rw [show dstL (.move t a) = t.d from rfl, eqD_plc, decide_eq_true_eq] at h; exact List.mem_singleton.mpr h.symm
    | put t a => rw [show dstL (.put t a) = t.d from rfl, eqD_plc, decide_eq_true_eq] at h; exact List.mem_singleton.mpr h.symm
    | load t a => rw [show dstL (.load t a) = t.d from rfl, eqD_plc, decide_eq_true_eq] at h; exact List.mem_singleton.mpr h.symm
  · rintro ⟨o, ho, h⟩
    refine ⟨dstL o, List.mem_map.mpr ⟨o, ho, rfl⟩, ?_⟩
    cases o with
    | store a b => cases h
    | alu op t a b => rw [show dstL (.alu op t a b) = t.d from rfl, eqD_plc, decide_eq_true_eq]; exact (List.mem_singleton.mp h).symm
    | move t a => rw [show dstL (.move t a) = t.d from rfl, eqD_plc, decide_eq_true_eq]; exact (List.mem_singleton.mp h).symm
    | put t a => rw [show dstL (.put t a) = t.d from rfl, eqD_plc, decide_eq_true_eq]; exact (List.mem_singleton.mp h).symm
    | load t a => rw [show dstL (.load t a) = t.d from rfl, eqD_plc, decide_eq_true_eq]; exact (List.mem_singleton.mp h).symm
def storeB (os : List Ord) : Bool := os.any fun o => decide (o.kind = "store")
theorem in_dstN {os : List Ord} : ((os.map dstL).any fun z => eqD z (.tup [])) = storeB os := by
  unfold storeB
  rw [List.any_map]
  congr 1
  funext o
  have k : ∀ z : String, z ≠ "store" → decide (Str.ofString z = Str.ofString "store") = false := fun z hz => decide_eq_false (by simpa [ofString_inj] using hz)
  cases o with
  | store a b => exact (decide_eq_true (show Str.ofString "store" = Str.ofString "store" from rfl)).symm
  | alu op t a b => cases t <;> exact (k "alu" (by decide)).symm
  | move t a => cases t <;> exact (k "move" (by decide)).symm
  | put t a => cases t <;> exact (k "put" (by decide)).symm
  | load t a => cases t <;> exact (k "load" (by decide)).symm
/-- what may still be put in, by units -/
def leftL (M : Mach) (os : List Ord) : List (Key × D) := [(.inr "alu", .int (M.al - cntO "alu" os)), (.inr "move", .int (M.mo - (cntO "move" os + cntO "put" os))), (.inr "memory", .int (1 - (cntO "load" os + cntO "store" os)))]
def unitL : List (Key × D) := [(.inr "alu", .str "alu"), (.inr "move", .str "move"), (.inr "put", .str "move"), (.inr "load", .str "memory"), (.inr "store", .str "memory")]
def unitS : Ord → Str
  | .alu _ _ _ _ => "alu" | .move _ _ => "move" | .put _ _ => "move" | .load _ _ => "memory" | .store _ _ => "memory"
def lftL (M : Mach) (os : List Ord) : Ord → Int
  | .alu _ _ _ _ => M.al - cntO "alu" os
  | .move _ _ => M.mo - (cntO "move" os + cntO "put" os)
  | .put _ _ => M.mo - (cntO "move" os + cntO "put" os)
  | .load _ _ => 1 - (cntO "load" os + cntO "store" os)
  | .store _ _ => 1 - (cntO "load" os + cntO "store" os)
theorem keyNe {x y : String} (h : x ≠ y) : ¬ ((Sum.inr (Str.ofString x) : Key) = Sum.inr (Str.ofString y)) := fun e => h (ofString_inj.mp (Sum.inr.inj e))
theorem unit_val (o : Ord) : valD unitL (.inr o.kind) = some (.str (unitS o)) := by
  unfold unitL
  cases o <;> simp only [Ord.kind, valD_cons, keyNe, ne_eq, String.reduceEq, not_false_eq_true, if_false, if_true, unitS]
theorem left_val (M : Mach) (os : List Ord) (o : Ord) : valD (leftL M os) (.inr (unitS o)) = some (.int (lftL M os o)) := by
  unfold leftL
  cases o <;> simp only [unitS, valD_cons, keyNe, ne_eq, String.reduceEq, not_false_eq_true, if_false, if_true, lftL]
theorem cnt_snoc (k : Str) (os : List Ord) (o : Ord) : cntO k (os ++ [o]) = cntO k os + (if o.kind = k then 1 else 0) := by
  unfold cntO
  rw [List.countP_append, List.countP_singleton]
  simp
theorem left_put (M : Mach) (os : List Ord) (o : Ord) : putKD (leftL M os) (.inr (unitS o)) (.int (lftL M os o - 1)) = leftL M (os ++ [o]) := by
  unfold leftL putKD
  cases o <;> simp only [unitS, lftL, cnt_snoc, Ord.kind, List.any_cons, List.any_nil, List.map_cons, List.map_nil, keyNe, ne_eq, String.reduceEq, not_false_eq_true, decide_true, decide_false, Bool.true_or, Bool.or_true, Bool.false_or, Bool.or_false, if_true, if_false, ofString_inj, Int.natCast_add, Int.natCast_zero, Int.add_zero, Int.natCast_one, Nat.add_zero] <;> (simp only [List.cons.injEq, Prod.mk.injEq, D.int.injEq, true_and, and_true]; omega)
structure MayL (M : Mach) (os : List Ord) : Prop where
  al : (cntO "alu" os : Int) ≤ M.al
  mo : (cntO "move" os : Int) + cntO "put" os ≤ M.mo
  me : (cntO "load" os : Int) + cntO "store" os ≤ 1
  nd : (spots os).Nodup
theorem MayL.may {M : Mach} {os : List Ord} (h : MayL M os) : mayO M os = true := by
  have h1 := h.al; have h2 := h.mo; have h3 := h.me
  have n := nodup_spots h.nd (by have : (cntO "store" os : Int) ≤ 1 := by omega
                                 omega)
  simp only [mayO, Bool.and_eq_true, Bool.not_eq_true', Bool.or_eq_false_iff, decide_eq_false_iff_not, decide_eq_true_eq]
  exact ⟨⟨⟨by omega, by omega⟩, by omega⟩, h.nd, n⟩
theorem MayL.put {M : Mach} {os : List Ord} {o : Ord} (h : MayL M os) (hl : 0 < lftL M os o) (hd : ∀ p ∈ o.to, p ∉ spots os) : MayL M (os ++ [o]) := by
  have h1 := h.al; have h2 := h.mo; have h3 := h.me
  refine ⟨?_, ?_, ?_, ?_⟩
  · rw [cnt_snoc]; cases o <;> simp only [lftL, Ord.kind, ofString_inj, String.reduceEq, if_true, if_false] at hl ⊢ <;> omega
  · rw [cnt_snoc, cnt_snoc]; cases o <;> simp only [lftL, Ord.kind, ofString_inj, String.reduceEq, if_true, if_false] at hl ⊢ <;> omega
  · rw [cnt_snoc, cnt_snoc]; cases o <;> simp only [lftL, Ord.kind, ofString_inj, String.reduceEq, if_true, if_false] at hl ⊢ <;> omega
  · rw [spots_app, show spots [o] = o.to ++ [] from rfl, List.append_nil]
    have ho : o.to.Nodup := by cases o <;> simp [Ord.to]
    exact List.nodup_append.mpr ⟨h.nd, ho, fun a ha b hb e => hd b hb (by rw [← e]; exact ha)⟩
def sp__law_row (a : Ad) : DSp := fun ds G R => ∃ (s : Addr) (M : Mach) (n : Nat) (o : GO) (most : Nat), ds = [M.d, .ref s, .int (most : Nat)] ∧ M.ok ∧ 1 ≤ M.h ∧ most ≤ 20 ∧ G a.PT__law_row = some (.tab qn__law_row) ∧ G s = some o ∧ BagO n o ∧ n ≤ 900000 ∧ ∀ (os : List Ord) o', (∀ x ∈ os, x.ok M) → os.length ≤ most → mayO M os = true → BagO (n + 1 + 8 * most) o' → R (.tup ((sortO os).map Ord.d)) (gup G s o')
local macro_rules | `(tactic| walk_at "x") => `(tactic| first | refine go_draw (by first | exact gup_same | assumption | fail) (by assumption) (by omega) (by walk_at "side") (by walk_at "side") fun _ _ _ _ => ?_ | dsimp only [x_litK, x_sortL, x_kix] | fail)
theorem ok__law_row {P : Program} {w : World} {K : PySem.W.Frag} {mg : Str → Option Value} {base : Heap} {a : Ad} (T : TxB w K mg base a) : FnD P w K mg base 5 a.f__law_row a.fd__law_row ["machine", "bag", "most"] (sp__law_row a) := by
  refine fun_okL T.F__law_row T.kc__law_row sc__law_row (fun ds G R h => ?_) (fun A outer s H hr => ⟨_, (qss_cons (qs_set (i := 3) sc__law_row.nd rfl (.inl rfl) (qe_lst true qa_nil))
      (qss_cons (qs_set (i := 4) sc__law_row.nd rfl (.inl rfl) (qe_litK (l := [("alu", _), ("move", _), ("memory", _)]) (pps_cons qe_str (qe_ix xd_ix (qv 0) qe_int (fun _ _ => rfl)) (pps_cons qe_str (qe_ix xd_ix (qv 0) qe_int (fun _ _ => rfl)) (pps_cons qe_str qe_int pps_nil)))))
      (qss_cons (qs_set (i := 5) sc__law_row.nd rfl (.inl rfl) (qe_litK (l := [("alu", _), ("move", _), ("put", _), ("load", _), ("store", _)]) (pps_cons qe_str qe_str (pps_cons qe_str qe_str (pps_cons qe_str qe_str (pps_cons qe_str qe_str (pps_cons qe_str qe_str pps_nil)))))))
      (qss_cons (qs_for PassesOwn.never rfl (qi_range1 rfl T.n_range (qa_cons (qe_call (ok__law_draw T) (hr.mono (by omega)) rfl T.g__law_draw T.F__law_draw.kp T.b__law_draw (qa_cons (qv 1) (qa_cons (qe_op (od_add false) (qv 2) qe_int) qa_nil))) qa_nil)) (qg_of (pg_name (i := 6) sc__law_row.nd rfl (.inl rfl)) (tg_name (i := 6) (ws := [6]) (by decide)))
      (qss_cons (qs_set (i := 7) sc__law_row.nd rfl (.inl rfl) (qe_call (ok__law_order T) (hr.mono (by omega)) rfl T.g__law_order T.F__law_order.kp T.b__law_order (qa_cons (qv 0) (qa_cons (qv 1) qa_nil))))
      (qss_one (qs_if (QW.pt (qw_and (qt_cmp od_gt (qe_ixK2 (rm1 (room100 hr)) (qv 4) (qe_ixK2 (rm1 (room100 hr)) (qv 5) (qe_ix xd_ix (qv 7) qe_int (fun _ _ => rfl)) (fun _ _ => rfl)) (fun _ _ => rfl)) qe_int (nomark _)) (qw_and1 (qt_cmp (od_notInE (room100 hr)) (qe_call (ok__law_to T) (hr.mono (by omega)) rfl T.g__law_to T.F__law_to.kp T.b__law_to (qa_cons (qv 7) qa_nil)) (qe_lc false rfl sc__law_row.nd (qi_seq (qv 3)) (blkOk_by (own := [("one", 9)]) (N := N__law_row) (sc := defScope s__law_row) (by decide +kernel)) (fun _ _ _ _ _ => (pg_name (i := 9) sc__law_row.nd rfl (.inl rfl))) (tg_name (i := 9) (by decide)) (fun _ _ _ _ _ => qts_nil) (fun _ _ _ _ _ => (qe_call (ok__law_to T) (hr.mono (by omega)) rfl T.g__law_to T.F__law_to.kp T.b__law_to (qa_cons (qv 9) qa_nil)))) rfl))))
      (qss_cons (qs_augS (qv 4) (qe_ixK2 (rm1 (room100 hr)) (qv 5) (qe_ix xd_ix (qv 7) qe_int (fun _ _ => rfl)) (fun _ _ => rfl)) (gd_ixK2 (rm1 (room100 hr))) qe_int od_isub (sd_setK2 (rm1 (room100 hr))))
      (qss_one (qs_expr (qe_m PySem.F.plainAttrs_list PySem.F.slot_list_append PySem.F.type_list_append md_append (qv 3) (qa_cons (qv 7) qa_nil)))))
      qss_nil))))
      (qss_cons (qs_set (i := 8) sc__law_row.nd rfl (.inr rfl) (qe_lst false (qa_cons qe_str (qa_cons qe_str (qa_cons qe_str (qa_cons qe_str (qa_cons qe_str qa_nil)))))))
      (qss_one (qs_ret (qe_callTy cd_tuple rfl T.n_tuple (by decide +kernel) (qa_cons (qe_sortL false (js := [8]) (M := ["one", "kinds"]) (fr := ["kinds"]) (pr := "one") T.tb__law_row rfl rfl (NdefX.nscope_by (by decide +kernel)) rfl rfl (fun _ _ _ _ _ _ => rfl) (fun q cl c' f A outer s H hr => (qe_tup (qa_cons (qe_m PySem.F.plainAttrs_list PySem.F.slot_list_index PySem.F.type_list_index (md_indexL (room100 hr)) (qv 1) (qa_cons (qe_ix xd_ix (qv 0) qe_int (fun _ _ => rfl)) qa_nil)) (qa_cons (qe_call (ok__law_text T) (hr.mono (by omega)) rfl T.g__law_text T.F__law_text.kp T.b__law_text (qa_cons (qv 0) qa_nil)) qa_nil)))) hr rfl T.n_sorted (qv 3)) qa_nil))))))))), fun ds G R h => ?_⟩)
  · obtain ⟨s, M, n, o, most, rfl, _⟩ := h; rfl
  · obtain ⟨s, M, n, o, most, rfl, hM, hh, hmo, hT, e, ho, hn, h⟩ := h
    have hq : ∀ {b : Addr} {u : GO}, G b = some u → (∀ q, u ≠ .tab q) → b ≠ a.PT__law_row := fun eb hu z => by rw [z, hT] at eb; exact hu _ (Option.some.inj eb).symm
    have hsT : a.PT__law_row ≠ s := by
      obtain ⟨x, y, eo, _⟩ := ho
      exact (hq e fun q z => by rw [eo] at z; cases z).symm
    refine seq_cut (fun σ' G' => ∃ p, σ' = [some M.d, some (.ref s), some (.int (most : Nat)), some (.ref p), none, none, none, none, none, none] ∧ s ≠ p ∧ G p = none ∧ G' = gup G p (.lst [])) ?_ (fun N1 hN1 => ?_)
    rotate_left
    · walk_at "go"
      rename_i p np
      exact hN1 _ _ ⟨p, rfl, fr_ne e np, np, rfl⟩
    rintro σ G1 ⟨p, rfl, hsp, np, rfl⟩
    refine seq_cut (fun σ' G' => ∃ c, σ' = [some M.d, some (.ref s), some (.int (most : Nat)), some (.ref p), some (.ref c), none, none, none, none, none] ∧ s ≠ c ∧ p ≠ c ∧ G c = none ∧ G' = gup (gup G p (.lst [])) c (.dK (leftL M []))) ?_ (fun N1 hN1 => ?_)
    rotate_left
    · dsimp only [Mach.d] at hN1 ⊢
      walk_at "go"
      rename_i c nc
      have hsc : s ≠ c := fr_ne (by rw [gup_ne hsp]; exact e) nc
      have hpc : p ≠ c := fr_ne gup_same nc
      refine hN1 _ _ ⟨c, rfl, hsc, hpc, by rw [gup_ne hpc.symm] at nc; exact nc, ?_⟩
      congr 2
      unfold leftL
      simp only [List.zip_cons_cons, List.zip_nil_right, cntO, List.countP_nil, Int.natCast_zero, Int.sub_zero, Int.add_zero]
    rintro σ G1 ⟨c, rfl, hsc, hpc, nc, rfl⟩
    refine seq_cut (fun σ' G' => ∃ u, σ' = [some M.d, some (.ref s), some (.int (most : Nat)), some (.ref p), some (.ref c), some (.ref u), none, none, none, none] ∧ s ≠ u ∧ p ≠ u ∧ c ≠ u ∧ G u = none ∧ Ext s G G' ∧ G' s = some o ∧ G' p = some (.lst []) ∧ G' c = some (.dK (leftL M [])) ∧ G' u = some (.dK unitL)) ?_ (fun N1 hN1 => ?_)
    rotate_left
    · walk_at "go"
      rename_i u nu
      have es : gup (gup G p (.lst [])) c (.dK (leftL M [])) s = some o := by rw [gup_ne hsc, gup_ne hsp]; exact e
      have ep : gup (gup G p (.lst [])) c (.dK (leftL M [])) p = some (.lst []) := by rw [gup_ne hpc, gup_same]
      have hsu : s ≠ u := fr_ne es nu
      have hpu : p ≠ u := fr_ne ep nu
      have hcu : c ≠ u := fr_ne gup_same nu
      refine hN1 _ _ ⟨u, rfl, hsu, hpu, hcu, by rw [gup_ne hcu.symm, gup_ne hpu.symm] at nu; exact nu, (((Ext.refl s G).put np).put nc).new nu hsu, by rw [gup_ne hsu]; exact es, by rw [gup_ne hpu]; exact ep, by rw [gup_ne hcu, gup_same], ?_⟩
      rw [gup_same]
      rfl
    rintro σ G1 ⟨u, rfl, hsu, hpu, hcu, nu, hx1, e1, ep1, ec1, eu1⟩
    refine seq_cut (fun σ' G' => ∃ (os : List Ord) (x6 x7 : Option D) (o5 : GO), σ' = [some M.d, some (.ref s), some (.int (most : Nat)), some (.ref p), some (.ref c), some (.ref u), x6, x7, none, none] ∧ Ext s G G' ∧ G' s = some o5 ∧ BagO (n + 1 + 8 * most) o5 ∧ G' p = some (.lst (os.map Ord.d)) ∧ (∀ x ∈ os, x.ok M) ∧ os.length ≤ most ∧ MayL M os) ?_ (fun N1 hN1 => ?_)
    rotate_left
    · rw [x_for, x_rng1]
      dsimp only [x_cons, x_nil]
      walk_at "go"
      rename_i r o2 hr ho2
      rw [Int.toNat_natCast]
      refine for_rng r (fun k σ' G' => ∃ (os : List Ord) (x6 x7 : Option D) (o5 : GO), σ' = [some M.d, some (.ref s), some (.int (most : Nat)), some (.ref p), some (.ref c), some (.ref u), x6, x7, none, none] ∧ Ext s G G' ∧ G' s = some o5 ∧ BagO (n + 1 + 8 * k) o5 ∧ G' p = some (.lst (os.map Ord.d)) ∧ G' c = some (.dK (leftL M os)) ∧ G' u = some (.dK unitL) ∧ (∀ x ∈ os, x.ok M) ∧ os.length ≤ k ∧ MayL M os) ?turn ?fin _ _ ⟨[], none, none, o2, rfl, hx1.self, gup_same, ho2, by rw [gup_ne hsp.symm]; exact ep1, by rw [gup_ne hsc.symm]; exact ec1, by rw [gup_ne hsu.symm]; exact eu1, (fun _ h => by cases h), Nat.le_refl _, ⟨by have := hM.a1; simp only [cntO, List.countP_nil]; omega, by have := hM.m1; simp only [cntO, List.countP_nil]; omega, by simp only [cntO, List.countP_nil]; omega, by simp [spots]⟩⟩
      case fin =>
        rintro σ' G' ⟨os, x6, x7, o5, rfl, hx5, e5, ho5, ep5, ec5, eu5, hos, hol, hmay⟩
        exact hN1 _ _ ⟨os, _, _, o5, rfl, hx5, e5, ho5.mono (by omega), ep5, hos, by omega, hmay⟩
      case turn =>
        rintro k σ' G' hk ⟨os, x6, x7, o5, rfl, hx5, e5, ho5, ep5, ec5, eu5, hos, hol, hmay⟩ N hN
        refine seq_cut (fun σ' G2 => ∃ (x : Ord) (o6 : GO), σ' = [some M.d, some (.ref s), some (.int (most : Nat)), some (.ref p), some (.ref c), some (.ref u), some (.int (k : Nat)), some x.d, none, none] ∧ x.ok M ∧ BagO (n + 1 + 8 * (k + 1)) o6 ∧ G2 = gup G' s o6) ?_ (fun N2 hN2 => ?_)
        rotate_left
        · walk_at "go"
          refine go_order hM hh e5 ho5 (by omega) fun x o6 hx ho6 => ?_
          walk_at "go"
          exact hN2 _ _ ⟨x, o6, rfl, hx, ho6.mono (by omega), rfl⟩
        rintro σ G3 ⟨x, o6, rfl, hx, ho6, rfl⟩
        have ep6 : gup G' s o6 p = some (.lst (os.map Ord.d)) := by rw [gup_ne hsp.symm]; exact ep5
        have ec6 : gup G' s o6 c = some (.dK (leftL M os)) := by rw [gup_ne hsc.symm]; exact ec5
        have eu6 : gup G' s o6 u = some (.dK unitL) := by rw [gup_ne hsu.symm]; exact eu5
        have e6 : gup G' s o6 s = some o6 := gup_same
        have hx6 : Ext s G (gup G' s o6) := hx5.self
        generalize gup G' s o6 = G6 at ep6 ec6 eu6 e6 hx6 ⊢
        have hskip : ∀ G7, G7 = G6 → N [some M.d, some (.ref s), some (.int (most : Nat)), some (.ref p), some (.ref c), some (.ref u), some (.int (k : Nat)), some x.d, none, none] G7 := fun G7 z => by
          rw [z]
          exact hN _ _ ⟨os, _, _, o6, rfl, hx6, e6, ho6, ep6, ec6, eu6, hos, by omega, hmay⟩
        have hput : 0 < lftL M os x → (∀ q ∈ x.to, q ∉ spots os) → ∀ G7, G7 = gup (gup G6 c (.dK (leftL M (os ++ [x])))) p (.lst (os.map Ord.d ++ [x.d])) → N [some M.d, some (.ref s), some (.int (most : Nat)), some (.ref p), some (.ref c), some (.ref u), some (.int (k : Nat)), some x.d, none, none] G7 := fun h1 h2 G7 z => by
          rw [z]
          refine hN _ _ ⟨os ++ [x], _, _, o6, rfl, (hx6.put nc).put np, by rw [gup_ne hsp, gup_ne hsc]; exact e6, ho6, by rw [gup_same, List.map_append]; rfl, by rw [gup_ne hpc.symm, gup_same], by rw [gup_ne hpu.symm, gup_ne hcu.symm]; exact eu6, fun y hy => ?_, by rw [List.length_append]; simp only [List.length_cons, List.length_nil]; omega, hmay.put h1 h2⟩
          rcases List.mem_append.mp hy with hy | hy
          · exact hos y hy
          · rw [List.mem_singleton] at hy; rw [hy]; exact hx
        have exd : dIx x.d (.int 0) = fun G R => R (.str x.kind) G := by
          funext G R
          cases x <;> rfl
        walk_at "go"
        rw [exd]
        refine ixK2_go (k := .inr x.kind) eu6 (unit_val x) ?_
        refine ixK2_go (k := .inr (unitS x)) ec6 (left_val M os x) ?_
        walk_at "go"
        split
        · rename_i hl
          have hl : 0 < lftL M os x := by omega
          refine go_to ?_
          rw [ep6, atL_lst]
          refine ⟨small_line (by rw [List.length_map]; omega), ?_⟩
          refine lc_typ Ord.d dstL ep6 os [] (fun o ho Q k => by walk_at "go"; exact go_to k) _ ?_
          rw [List.nil_append]
          have tail : (∀ q ∈ x.to, q ∉ spots os) → dIxK2 (D.ref u) (D.str x.kind) G6 fun i G2 => dIxK2 (D.ref c) i G2 fun x_5 G3 => dMinus x_5 (D.int 1) G3 fun z G5 => dSetK2 (D.ref c) i z G5 fun G6 => Kont (dDrop (dM "list" dAppend (dVar 3) (dCons (dVar 7) dNil)) { nx := N, rt := R, bk := N1, ct := N }) [some M.d, some (D.ref s), some (D.int ↑most), some (D.ref p), some (D.ref c), some (D.ref u), some (D.int ↑k), some x.d, none, none] G6 := fun hd => by
            refine ixK2_go (k := .inr x.kind) eu6 (unit_val x) ?_
            refine ixK2_go (k := .inr (unitS x)) ec6 (left_val M os x) ?_
            walk_at "go"
            refine setK2_go (k := .inr (unitS x)) ec6 (by simp [leftL]) ?_
            rw [left_put]
            walk_at "go"
            have ep7 : gup G6 c (.dK (leftL M (os ++ [x]))) p = some (.lst (os.map Ord.d)) := by rw [gup_ne hpc]; exact ep6
            refine ⟨mty_at ep7, ?_⟩
            rw [atL_at ep7]
            refine ⟨by rw [sizeLine_eq, List.length_map]; omega, ?_⟩
            exact hput hl hd _ rfl
          cases hd : x.dst with
          | none =>
            have e1 : dstL x = .tup [] := by unfold dstL; rw [hd]
            rw [e1]
            refine inE_L (fun z e => (by cases e)) rfl (dsts_pyL hM hos) (by decide) ?_
            rw [in_dstN]
            cases storeB os with
            | true =>
              walk_at "go"
              exact hskip _ rfl
            | false =>
              walk_at "w"
              exact tail fun q hq => by rw [to_noneL hd] at hq; cases hq
          | some q =>
            have et := to_someL hd
            have e1 : dstL x = q.d := by unfold dstL; rw [hd]
            rw [e1]
            refine inE_L (by cases q <;> exact fun z e => (by cases e)) (plc_py hM (dst_ok hd hx)) (dsts_pyL hM hos) (by have := q.ky.2; omega) ?_
            rw [in_dstL]
            by_cases hq : q ∈ spots os
            · rw [decide_eq_true hq]
              walk_at "go"
              exact hskip _ rfl
            · rw [decide_eq_false hq]
              walk_at "w"
              exact tail fun y hy => by rw [et] at hy; rw [List.mem_singleton.mp hy]; exact hq
        · walk_at "go"
          exact hskip _ rfl
    rintro σ G2 ⟨os, x6, x7, o5, rfl, hx2, e2, ho2, ep2, hos, hol, hmay⟩
    refine seq_cut (fun σ' G' => σ' = [some M.d, some (.ref s), some (.int (most : Nat)), some (.ref p), some (.ref c), some (.ref u), x6, x7, some (.lst [.str "alu", .str "move", .str "put", .str "load", .str "store"]), none] ∧ G' = G2) ?_ (fun N1 hN1 => ?_)
    rotate_left
    · walk_at "go"
      exact hN1 _ _ ⟨rfl, rfl⟩
    rintro σ G2 ⟨rfl, rfl⟩
    have osm : ∀ o ∈ os, o.small := fun x hx => Ord.ok.small hM (hos x hx)
    walk_at "go"
    refine ⟨hx2 _ _ hsT hT, ?_⟩
    refine sortK_go (lstOf_r ep2) (fun o R h k => ?_) osm ?_
    · refine ⟨o.d, rfl, ?_⟩
      rw [show startFD [Str.ofString "one", Str.ofString "kinds"] o.d [slotD [some M.d, some (D.ref s), some (D.int (most : Nat)), some (D.ref p), some (D.ref c), some (D.ref u), x6, x7, some (D.lst [D.str (Str.ofString "alu"), D.str (Str.ofString "move"), D.str (Str.ofString "put"), D.str (Str.ofString "load"), D.str (Str.ofString "store")]), none] 8] = [some o.d, some (D.lst [D.str (Str.ofString "alu"), D.str (Str.ofString "move"), D.str (Str.ofString "put"), D.str (Str.ofString "load"), D.str (Str.ofString "store")])] from rfl]
      walk_at "w"
      refine ⟨rfl, ?_⟩
      have exo : dIx o.d (.int 0) = fun G R => R (.str o.kind) G := by
        funext G R
        cases o <;> rfl
      rw [exo]
      show dIndexL _ [D.str o.kind] G2 _
      rw [ix_kind]
      walk_at "go"
      refine go_text h ?_
      exact ⟨small_line (by decide), k⟩
    · walk_at "w"
      exact rt_ext hx2 e2 (h os o5 hos hol hmay.may ho2)
theorem go_row {a : Ad} {s : Addr} {M : Mach} {G : Gp} {R : DK} {o : GO} {n most : Nat} (hM : M.ok) (hh : 1 ≤ M.h) (hmo : most ≤ 20) (hT : G a.PT__law_row = some (.tab qn__law_row)) (e : G s = some o) (h : BagO n o) (hn : n ≤ 900000) (k : ∀ (os : List Ord) o', (∀ x ∈ os, x.ok M) → os.length ≤ most → mayO M os = true → BagO (n + 1 + 8 * most) o' → R (.tup ((sortO os).map Ord.d)) (gup G s o')) : sp__law_row a [M.d, .ref s, .int (most : Nat)] G R := ⟨s, M, n, o, most, rfl, hM, hh, hmo, hT, e, h, hn, k⟩
end K64


set_option Elab.async false
set_option linter.all false
set_option maxRecDepth 100000
set_option maxHeartbeats 4000000
set_option autoImplicit false
namespace K64
open PySem PySem.Spec PyProof.Rows L2 DL
local macro_rules | `(tactic| walk_at "d") => `(tactic| dsimp only [dSeq, dNext, dIfS, dRet, dRetN, dAsg, dName, dVar, dC, dOp, dUn, dChain, dB, dAnd, dOr, dNot, dAndV, dOrV, dNotV, dIf, dNil, dCons, dTup, dLst, newL, dCallB, dCall, dCallK, dDrop, dAug, dAugS, dSub, dM, dM0, dSlice, dNoPart, dPart, dLc, dYes, dFor, dIter, dRng1, dEnum, dZipM, srcD, dStar, dInK, dIxK, dLenSet, dRev,
  startD, wipeD, setAll, dNames, List.map_cons, List.map_nil, List.length_cons, List.length_nil, List.replicate, List.cons_append, List.nil_append, List.append_nil, List.getElem?_cons_zero, List.getElem?_cons_succ, List.set_cons_zero, List.set_cons_succ, List.map, Nat.zero_add, Nat.reduceAdd, Nat.reduceSub, Nat.sub_self, Nat.succ_sub_succ_eq_sub])
local macro_rules | `(tactic| walk_at "o") => `(tactic| simp only [dAdd_ii, dAdd_ss, dAdd_tt, dAdd_ll, dMinus_ii, dMul_ii, dMod_ii, dFdiv_ii, dPow_ii, dShl_ii, dNeg_i, dIadd_ii, dLt_ii, dLe_ii, dGt_ii, dGe_ii, dEq_ii, dNe_ii, dEq_ss, dNe_ss, dEq_bb, dNe_bb, dIs_n, dIsNot_n, dMax2_ii, dMin2_ii, dTuple_t, dTuple_l, dList_t, dList_l, dIx_t, dIx_l, dIx_s, dSl_t, dSl_l, dSl_s, newL_f, len_tup, len_lst])
local macro_rules | `(tactic| walk_at "w") => `(tactic| dsimp only [x_var, x_c, x_op, x_un, x_b, x_and, x_or, x_not, x_chain, x_andV, x_orV, x_notV, x_if, x_nil, x_cons, x_tup, x_lst0, x_lst1, x_callB, x_call, x_callK, x_next, x_seq, x_break, x_cont, x_drop, x_ret, x_ifS, x_asg, x_name, x_names, x_sub, x_aug, x_augS, x_for, x_lc0, x_lc1, x_yes, x_noPart, x_part, x_slice, x_iter, it_t, it_l, it_n, it_s, it_r, x_rng1, x_enum, x_rev, x_m, x_m0, x_mX, x_zip, x_star_t, x_star_l, x_lenSet, x_forgo0, x_lcgo0, x_while, x_par, x_sortK,
  br_t, br_f, isB_bl, isI_int, isN_some, slo_some, atL_lst, ix_t, ix_l, ix_n,
  dAdd_ii, dAdd_ss, dAdd_tt, dAdd_ll, dMinus_ii, dMul_ii, dMod_ii, dFdiv_ii, dPow_ii, dShl_ii, dNeg_i, dIadd_ii, dLt_ii, dLe_ii, dGt_ii, dGe_ii, ltE_ii, ltE_ss, srcD, isi_i, isi_s, isi_b, isi_n, isi_t, isi_nt, isi_l, isi2_i, isi2_s, isi2_b, isi2_n, isi2_t, isi2_nt, isi2_l, inon_n, inon_i, inon_s, inon_b, inon_t, inon_l, inon_r, dEq_ii, dNe_ii, dEq_ss, dNe_ss, dEq_bb, dNe_bb, dIs_n, dIsNot_n, dMax2_ii, dMin2_ii, dTuple_t, dTuple_l, dList_t, dList_l, dSl_t, dSl_l, dSl_s, newL_f, newL_t, app_r, int_b, int_i, strI_i, strX_i, strX_s,
  startD, wipeD, setAll, permL, List.filterMap, List.map_cons, List.map_nil, List.length_cons, List.length_nil, List.replicate, List.cons_append, List.nil_append, List.append_nil, List.getElem?_cons_zero, List.getElem?_cons_succ, List.set_cons_zero, List.set_cons_succ, List.map, Nat.zero_add, Nat.reduceAdd, Nat.reduceSub, Nat.sub_self, Nat.succ_sub_succ_eq_sub])
local macro_rules | `(tactic| walk_at "v") => `(tactic| simp only [ofString_inj, String.reduceEq, at_0, at_1, at_2, at_3, at_4, at_5, isN_some, isBB_bl, isB_bl, br_t, br_f, br_not, br_and, br_or, br_dec, ix_r, len_tup, len_lst, len_nt, ltE_key, gup_gup, gup_same, starD_one, cut1, cut2, kt1, kt2, kt3, kt4, kt5, kt6, isTy, String.reduceBEq, Bool.or_false, Bool.false_or, Bool.true_or, Bool.or_true, Bool.and_false, Bool.false_and, Bool.true_and, Bool.and_true, Bool.not_true, Bool.not_false, decide_true, decide_false, eq_self_iff_true, Bool.false_eq_true, Int.reduceAdd, Int.add_zero, if_true, if_false, true_and, and_true])
local macro_rules | `(tactic| walk_at "side") => `(tactic| first | with_reducible assumption | omega | exact mty_up | exact True.intro | (simp only [List.mem_cons, ofString_inj, String.reduceEq, true_or, or_true, List.length_map]; done) | with_reducible exact (rfl : (_ : Nat) = _) | exact (rfl : (_ : Option String) = _) | (refine small_line ?_; omega) | (walk_at "ll"; first | omega | (refine small_line ?_; omega) | fail) | (exact log_small (by omega)) | fail)
local macro_rules | `(tactic| walk_at "x") => `(tactic| fail)
local macro_rules | `(tactic| walk_at "go") => `(tactic| repeat' (first | dsimp only [x_var, x_c, x_op, x_un, x_b, x_and, x_or, x_not, x_chain, x_andV, x_orV, x_notV, x_if, x_nil, x_cons, x_tup, x_lst0, x_lst1, x_callB, x_call, x_callK, x_next, x_seq, x_break, x_cont, x_drop, x_ret, x_ifS, x_asg, x_name, x_names, x_sub, x_aug, x_augS, x_for, x_lc0, x_lc1, x_yes, x_noPart, x_part, x_slice, x_iter, it_t, it_l, it_n, it_s, it_r, x_rng1, x_enum, x_rev, x_m, x_m0, x_mX, x_zip, x_star_t, x_star_l, x_lenSet, x_forgo0, x_lcgo0, x_while, x_par, x_sortK, br_t, br_f, isB_bl, isI_int, isN_some, slo_some, atL_lst, ix_t, ix_l, ix_n, dAdd_ii, dAdd_ss, dAdd_tt, dAdd_ll, dMinus_ii, dMul_ii, dMod_ii, dFdiv_ii, dPow_ii, dShl_ii, dNeg_i, dIadd_ii, dLt_ii, dLe_ii, dGt_ii, dGe_ii, ltE_ii, ltE_ss, srcD, isi_i, isi_s, isi_b, isi_n, isi_t, isi_nt, isi_l, isi2_i, isi2_s, isi2_b, isi2_n, isi2_t, isi2_nt, isi2_l, inon_n, inon_i, inon_s, inon_b, inon_t, inon_l, inon_r, dEq_ii, dNe_ii, dEq_ss, dNe_ss, dEq_bb, dNe_bb, dIs_n, dIsNot_n, dMax2_ii, dMin2_ii, dTuple_t, dTuple_l, dList_t, dList_l, dSl_t, dSl_l, dSl_s, newL_f, newL_t, app_r, int_b, int_i, strI_i, strX_i, strX_s, startD, wipeD, setAll, permL, List.filterMap, List.map_cons, List.map_nil, List.length_cons, List.length_nil, List.replicate, List.cons_append, List.nil_append, List.append_nil, List.getElem?_cons_zero, List.getElem?_cons_succ, List.set_cons_zero, List.set_cons_succ, List.map, Nat.zero_add, Nat.reduceAdd, Nat.reduceSub, Nat.sub_self, Nat.succ_sub_succ_eq_sub] | simp only [ofString_inj, String.reduceEq, at_0, at_1, at_2, at_3, at_4, at_5, isN_some, isBB_bl, isB_bl, br_t, br_f, br_not, br_and, br_or, br_dec, ix_r, len_tup, len_lst, len_nt, ltE_key, gup_gup, gup_same, starD_one, cut1, cut2, kt1, kt2, kt3, kt4, kt5, kt6, isTy, String.reduceBEq, Bool.or_false, Bool.false_or, Bool.true_or, Bool.or_true, Bool.and_false, Bool.false_and, Bool.true_and, Bool.and_true, Bool.not_true, Bool.not_false, decide_true, decide_false, eq_self_iff_true, Bool.false_eq_true, Int.reduceAdd, Int.add_zero, if_true, if_false, true_and, and_true] | walk_at "x" | with_reducible refine kont_go ?_ | with_reducible refine rt_sub (by assumption) ?_ | with_reducible refine rt_lst (by assumption) ?_ | with_reducible refine rt_drop (by assumption) ?_ | with_reducible refine rt_keep (by assumption) (by assumption) ?_ | with_reducible refine rt_same ?_ | (refine fun (p : Addr) (_ : _ = none) => ?_) | refine join_gor gup_same rfl (by walk_at "side") ?_ | with_reducible refine lc_cons ?_ | with_reducible refine for_cons ?_ | refine join_go rfl (by walk_at "side") ?_ | refine And.intro (by first | with_reducible assumption | omega | exact mty_up | exact True.intro | (simp only [List.mem_cons, ofString_inj, String.reduceEq, true_or, or_true, List.length_map]; done) | with_reducible exact (rfl : (_ : Nat) = _) | exact (rfl : (_ : Option String) = _) | (refine small_line ?_; omega) | (walk_at "ll"; first | omega | (refine small_line ?_; omega) | fail) | (exact log_small (by omega)) | fail) ?_ | fail))
local macro_rules | `(tactic| walk_at "ll") => `(tactic| simp only [List.length_map, List.length_append, List.length_cons, List.length_nil, List.map_cons, List.map_nil, List.sum_cons, List.sum_nil, len_app, rng_length, ll_0, ll_1, ll_2, ll_3, ll_4, ll_5, ll_6, ll_7, ll_8, ll_9, ll_10, ll_11, ll_12, ll_13, ll_14, ll_15, ll_16, ll_17, ll_18, ll_19, ll_20, ll_21, ll_22, ll_23, ll_24, ll_25, ll_26, ll_27])
/-! ### programs -/
inductive Nx where
  | fin | go (n : Nat) | test (p : Plc) (i j : Nat)
deriving DecidableEq
def Nx.nexts : Nx → List Nat | .fin => [] | .go n => [n] | .test _ i j => [i, j]
def Nx.d : Nx → D
  | .fin => .tup [.str "end"] | .go n => .tup [.str "go", .int n] | .test p i j => .tup [.str "test", p.d, .int i, .int j]
structure Rw where
  os : List Ord
  nx : Nx
deriving DecidableEq
def Rw.d (r : Rw) : D := .tup [.tup (r.os.map Ord.d), r.nx.d]
def Nx.ok (M : Mach) (k many : Nat) : Nx → Prop
  | .fin => True | .go n => k < n ∧ n < many | .test p i j => p.ok M ∧ k < i ∧ i < many ∧ k < j ∧ j < many
/-- a row's orders as they are drawn: sorted, of those that a row may have -/
def RowOk (M : Mach) (os : List Ord) : Prop := ∃ l : List Ord, os = sortO l ∧ (∀ x ∈ l, x.ok M) ∧ l.length ≤ 7 ∧ mayO M l = true
theorem sortO_perm (l : List Ord) : (sortO l).Perm l := by
  unfold sortO
  exact sortK_perm (by simp)
theorem RowOk.ok {M : Mach} {os : List Ord} (h : RowOk M os) : (∀ x ∈ os, x.ok M) ∧ os.length ≤ 7 := by
  obtain ⟨l, rfl, h1, h2, _⟩ := h
  have hp := sortO_perm l
  exact ⟨fun x hx => h1 x (hp.mem_iff.mp hx), by rw [hp.length_eq]; exact h2⟩
theorem snoc_get {α : Type} {l : List α} {a x : α} {j : Nat} (h : (l ++ [a])[j]? = some x) : l[j]? = some x ∨ (j = l.length ∧ x = a) := by
  by_cases hj : j < l.length
  · rw [List.getElem?_append_left hj] at h; exact .inl h
  · rw [List.getElem?_append_right (by omega)] at h
    have := (List.getElem?_eq_some_iff.mp h).1
    simp only [List.length_cons, List.length_nil] at this
    have e : j - l.length = 0 := by omega
    rw [e] at h
    cases h
    exact .inr ⟨by omega, rfl⟩
def sp__law_next : DSp := fun ds G R => ∃ (s : Addr) (M : Mach) (n : Nat) (o : GO) (at_ many : Nat), ds = [M.d, .ref s, .int (at_ : Nat), .int (many : Nat)] ∧ M.ok ∧ 1 ≤ M.h ∧ at_ < many ∧ many ≤ 1000 ∧ G s = some o ∧ BagO n o ∧ n ≤ 900000 ∧ ∀ (x : Nx) o', x.ok M at_ many → BagO (n + 6) o' → R x.d (gup G s o')
local macro_rules | `(tactic| walk_at "x") => `(tactic| first | refine go_draw (by first | exact gup_same | assumption | fail) (by assumption) (by omega) (by walk_at "side") (by walk_at "side") fun _ _ _ _ => ?_ | refine go_place (by assumption) (by assumption) (by first | exact gup_same | assumption | fail) (by assumption) (by omega) fun _ _ _ _ => ?_ | fail)
theorem ok__law_next {P : Program} {w : World} {K : PySem.W.Frag} {mg : Str → Option Value} {base : Heap} {a : Ad} (T : TxB w K mg base a) : FnD P w K mg base 3 a.f__law_next a.fd__law_next ["machine", "bag", "at", "many"] sp__law_next := by
  refine fun_okD T.F__law_next sc__law_next (fun ds G R h => ?_) (fun cdv A outer s H hr => ⟨_, (qss_cons (qs_if (QW.pt (qw_or (qt_cmp (od_eq hr.units) (qv 2) (qe_op od_sub (qv 3) qe_int) (nomark _)) (qw_or1 (qt_cmp (od_eq hr.units) (qe_call (ok__law_draw T) (hr.mono (by omega)) rfl T.g__law_draw T.F__law_draw.kp T.b__law_draw (qa_cons (qv 1) (qa_cons qe_int qa_nil))) qe_int (nomark _)))))
      (qss_one (qs_ret (qe_tup (qa_cons qe_str qa_nil))))
      qss_nil)
      (qss_cons (qs_set (i := 4) sc__law_next.nd rfl (.inl rfl) (qe_op (od_add false) (qe_op (od_add false) (qv 2) qe_int) (qe_call (ok__law_draw T) (hr.mono (by omega)) rfl T.g__law_draw T.F__law_draw.kp T.b__law_draw (qa_cons (qv 1) (qa_cons (qe_op od_sub (qe_op od_sub (qv 3) qe_int) (qv 2)) qa_nil)))))
      (qss_cons (qs_if (qt_cmp (od_eq hr.units) (qe_call (ok__law_draw T) (hr.mono (by omega)) rfl T.g__law_draw T.F__law_draw.kp T.b__law_draw (qa_cons (qv 1) (qa_cons qe_int qa_nil))) qe_int (nomark _))
      (qss_one (qs_ret (qe_tup (qa_cons qe_str (qa_cons (qv 4) qa_nil)))))
      qss_nil)
      (qss_one (qs_ret (qe_tup (qa_cons qe_str (qa_cons (qe_call (ok__law_place T) (hr.mono (by omega)) rfl T.g__law_place T.F__law_place.kp T.b__law_place (qa_cons (qv 0) (qa_cons (qv 1) qa_nil))) (qa_cons (qv 4) (qa_cons (qe_op (od_add false) (qe_op (od_add false) (qv 2) qe_int) (qe_call (ok__law_draw T) (hr.mono (by omega)) rfl T.g__law_draw T.F__law_draw.kp T.b__law_draw (qa_cons (qv 1) (qa_cons (qe_op od_sub (qe_op od_sub (qv 3) qe_int) (qv 2)) qa_nil)))) qa_nil)))))))))), fun ds G R h => ?_⟩)
  · obtain ⟨s, M, n, o, at_, many, rfl, _⟩ := h; rfl
  · obtain ⟨s, M, n, o, at_, many, rfl, hM, hh, ha, hm, e, ho, hn, h⟩ := h
    refine seq_cut (fun σ' G' => ∃ (o1 : GO), σ' = [some M.d, some (.ref s), some (.int (at_ : Nat)), some (.int (many : Nat)), none] ∧ at_ + 1 < many ∧ BagO (n + 1) o1 ∧ G' = gup G s o1) ?_ (fun N1 hN1 => ?_)
    rotate_left
    · walk_at "go"
      have hfin : ∀ o2, BagO (n + 1) o2 → Rt R (D.tup [D.str (Str.ofString "end")]) (gup G s o2) := fun o2 h2 => rt_same (h .fin o2 trivial (h2.mono (by omega)))
      split
      · refine ⟨small_line (by decide), ?_⟩
        have := hfin o (ho.mono (by omega))
        rwa [gup_self e] at this
      · walk_at "go"
        rename_i r o1 hr ho1
        split
        · exact ⟨small_line (by decide), hfin o1 ho1⟩
        · exact hN1 _ _ ⟨o1, rfl, by omega, ho1, rfl⟩
    rintro σ G1 ⟨o1, rfl, hlt, ho1, rfl⟩
    walk_at "go"
    rename_i r o2 hr ho2 r2 o3 hr2 ho3
    have e1 : (at_ : Int) + 1 + (r : Int) = ((at_ + 1 + r : Nat) : Int) := by omega
    rw [e1]
    split
    · refine ⟨small_line (by decide), rt_same (h (.go (at_ + 1 + r)) o3 ⟨by omega, by omega⟩ (ho3.mono (by omega)))⟩
    · walk_at "go"
      rename_i pl o4 hpl ho4 r3 o5 hr3 ho5
      rw [show (at_ : Int) + 1 + (r3 : Int) = ((at_ + 1 + r3 : Nat) : Int) by omega]
      exact h (.test pl (at_ + 1 + r) (at_ + 1 + r3)) o5 ⟨hpl, by omega, by omega, by omega, by omega⟩ (ho5.mono (by omega))
theorem go_next {s : Addr} {M : Mach} {G : Gp} {R : DK} {o : GO} {n at_ many : Nat} (hM : M.ok) (hh : 1 ≤ M.h) (ha : at_ < many) (hm : many ≤ 1000) (e : G s = some o) (h : BagO n o) (hn : n ≤ 900000) (k : ∀ (x : Nx) o', x.ok M at_ many → BagO (n + 6) o' → R x.d (gup G s o')) : sp__law_next [M.d, .ref s, .int (at_ : Nat), .int (many : Nat)] G R := ⟨s, M, n, o, at_, many, rfl, hM, hh, ha, hm, e, h, hn, k⟩
end K64


set_option Elab.async false
set_option linter.all false
set_option maxRecDepth 100000
set_option maxHeartbeats 4000000
set_option autoImplicit false
namespace K64
open PySem PySem.Spec PyProof.Rows L2 DL
local macro_rules | `(tactic| walk_at "d") => `(tactic| dsimp only [dSeq, dNext, dIfS, dRet, dRetN, dAsg, dName, dVar, dC, dOp, dUn, dChain, dB, dAnd, dOr, dNot, dAndV, dOrV, dNotV, dIf, dNil, dCons, dTup, dLst, newL, dCallB, dCall, dCallK, dDrop, dAug, dAugS, dSub, dM, dM0, dSlice, dNoPart, dPart, dLc, dYes, dFor, dIter, dRng1, dEnum, dZipM, srcD, dStar, dInK, dIxK, dLenSet, dRev,
  startD, wipeD, setAll, dNames, List.map_cons, List.map_nil, List.length_cons, List.length_nil, List.replicate, List.cons_append, List.nil_append, List.append_nil, List.getElem?_cons_zero, List.getElem?_cons_succ, List.set_cons_zero, List.set_cons_succ, List.map, Nat.zero_add, Nat.reduceAdd, Nat.reduceSub, Nat.sub_self, Nat.succ_sub_succ_eq_sub])
local macro_rules | `(tactic| walk_at "o") => `(tactic| simp only [dAdd_ii, dAdd_ss, dAdd_tt, dAdd_ll, dMinus_ii, dMul_ii, dMod_ii, dFdiv_ii, dPow_ii, dShl_ii, dNeg_i, dIadd_ii, dLt_ii, dLe_ii, dGt_ii, dGe_ii, dEq_ii, dNe_ii, dEq_ss, dNe_ss, dEq_bb, dNe_bb, dIs_n, dIsNot_n, dMax2_ii, dMin2_ii, dTuple_t, dTuple_l, dList_t, dList_l, dIx_t, dIx_l, dIx_s, dSl_t, dSl_l, dSl_s, newL_f, len_tup, len_lst])
local macro_rules | `(tactic| walk_at "w") => `(tactic| dsimp only [x_var, x_c, x_op, x_un, x_b, x_and, x_or, x_not, x_chain, x_andV, x_orV, x_notV, x_if, x_nil, x_cons, x_tup, x_lst0, x_lst1, x_callB, x_call, x_callK, x_next, x_seq, x_break, x_cont, x_drop, x_ret, x_ifS, x_asg, x_name, x_names, x_sub, x_aug, x_augS, x_for, x_lc0, x_lc1, x_yes, x_noPart, x_part, x_slice, x_iter, it_t, it_l, it_n, it_s, it_r, x_rng1, x_enum, x_rev, x_m, x_m0, x_mX, x_zip, x_star_t, x_star_l, x_lenSet, x_forgo0, x_lcgo0, x_while, x_par, x_sortK,
  br_t, br_f, isB_bl, isI_int, isN_some, slo_some, atL_lst, ix_t, ix_l, ix_n,
  dAdd_ii, dAdd_ss, dAdd_tt, dAdd_ll, dMinus_ii, dMul_ii, dMod_ii, dFdiv_ii, dPow_ii, dShl_ii, dNeg_i, dIadd_ii, dLt_ii, dLe_ii, dGt_ii, dGe_ii, ltE_ii, ltE_ss, srcD, isi_i, isi_s, isi_b, isi_n, isi_t, isi_nt, isi_l, isi2_i, isi2_s, isi2_b, isi2_n, isi2_t, isi2_nt, isi2_l, inon_n, inon_i, inon_s, inon_b, inon_t, inon_l, inon_r, dEq_ii, dNe_ii, dEq_ss, dNe_ss, dEq_bb, dNe_bb, dIs_n, dIsNot_n, dMax2_ii, dMin2_ii, dTuple_t, dTuple_l, dList_t, dList_l, dSl_t, dSl_l, dSl_s, newL_f, newL_t, app_r, int_b, int_i, strI_i, strX_i, strX_s,
  startD, wipeD, setAll, permL, List.filterMap, List.map_cons, List.map_nil, List.length_cons, List.length_nil, List.replicate, List.cons_append, List.nil_append, List.append_nil, List.getElem?_cons_zero, List.getElem?_cons_succ, List.set_cons_zero, List.set_cons_succ, List.map, Nat.zero_add, Nat.reduceAdd, Nat.reduceSub, Nat.sub_self, Nat.succ_sub_succ_eq_sub])
local macro_rules | `(tactic| walk_at "v") => `(tactic| simp only [ofString_inj, String.reduceEq, at_0, at_1, at_2, at_3, at_4, at_5, isN_some, isBB_bl, isB_bl, br_t, br_f, br_not, br_and, br_or, br_dec, ix_r, len_tup, len_lst, len_nt, ltE_key, gup_gup, gup_same, starD_one, cut1, cut2, kt1, kt2, kt3, kt4, kt5, kt6, isTy, String.reduceBEq, Bool.or_false, Bool.false_or, Bool.true_or, Bool.or_true, Bool.and_false, Bool.false_and, Bool.true_and, Bool.and_true, Bool.not_true, Bool.not_false, decide_true, decide_false, eq_self_iff_true, Bool.false_eq_true, Int.reduceAdd, Int.add_zero, if_true, if_false, true_and, and_true])
local macro_rules | `(tactic| walk_at "side") => `(tactic| first | with_reducible assumption | omega | exact mty_up | exact True.intro | (simp only [List.mem_cons, ofString_inj, String.reduceEq, true_or, or_true, List.length_map]; done) | with_reducible exact (rfl : (_ : Nat) = _) | exact (rfl : (_ : Option String) = _) | (refine small_line ?_; omega) | (walk_at "ll"; first | omega | (refine small_line ?_; omega) | fail) | (exact log_small (by omega)) | fail)
local macro_rules | `(tactic| walk_at "x") => `(tactic| fail)
local macro_rules | `(tactic| walk_at "go") => `(tactic| repeat' (first | dsimp only [x_var, x_c, x_op, x_un, x_b, x_and, x_or, x_not, x_chain, x_andV, x_orV, x_notV, x_if, x_nil, x_cons, x_tup, x_lst0, x_lst1, x_callB, x_call, x_callK, x_next, x_seq, x_break, x_cont, x_drop, x_ret, x_ifS, x_asg, x_name, x_names, x_sub, x_aug, x_augS, x_for, x_lc0, x_lc1, x_yes, x_noPart, x_part, x_slice, x_iter, it_t, it_l, it_n, it_s, it_r, x_rng1, x_enum, x_rev, x_m, x_m0, x_mX, x_zip, x_star_t, x_star_l, x_lenSet, x_forgo0, x_lcgo0, x_while, x_par, x_sortK, br_t, br_f, isB_bl, isI_int, isN_some, slo_some, atL_lst, ix_t, ix_l, ix_n, dAdd_ii, dAdd_ss, dAdd_tt, dAdd_ll, dMinus_ii, dMul_ii, dMod_ii, dFdiv_ii, dPow_ii, dShl_ii, dNeg_i, dIadd_ii, dLt_ii, dLe_ii, dGt_ii, dGe_ii, ltE_ii, ltE_ss, srcD, isi_i, isi_s, isi_b, isi_n, isi_t, isi_nt, isi_l, isi2_i, isi2_s, isi2_b, isi2_n, isi2_t, isi2_nt, isi2_l, inon_n, inon_i, inon_s, inon_b, inon_t, inon_l, inon_r, dEq_ii, dNe_ii, dEq_ss, dNe_ss, dEq_bb, dNe_bb, dIs_n, dIsNot_n, dMax2_ii, dMin2_ii, dTuple_t, dTuple_l, dList_t, dList_l, dSl_t, dSl_l, dSl_s, newL_f, newL_t, app_r, int_b, int_i, strI_i, strX_i, strX_s, startD, wipeD, setAll, permL, List.filterMap, List.map_cons, List.map_nil, List.length_cons, List.length_nil, List.replicate, List.cons_append, List.nil_append, List.append_nil, List.getElem?_cons_zero, List.getElem?_cons_succ, List.set_cons_zero, List.set_cons_succ, List.map, Nat.zero_add, Nat.reduceAdd, Nat.reduceSub, Nat.sub_self, Nat.succ_sub_succ_eq_sub] | simp only [ofString_inj, String.reduceEq, at_0, at_1, at_2, at_3, at_4, at_5, isN_some, isBB_bl, isB_bl, br_t, br_f, br_not, br_and, br_or, br_dec, ix_r, len_tup, len_lst, len_nt, ltE_key, gup_gup, gup_same, starD_one, cut1, cut2, kt1, kt2, kt3, kt4, kt5, kt6, isTy, String.reduceBEq, Bool.or_false, Bool.false_or, Bool.true_or, Bool.or_true, Bool.and_false, Bool.false_and, Bool.true_and, Bool.and_true, Bool.not_true, Bool.not_false, decide_true, decide_false, eq_self_iff_true, Bool.false_eq_true, Int.reduceAdd, Int.add_zero, if_true, if_false, true_and, and_true] | walk_at "x" | with_reducible refine kont_go ?_ | with_reducible refine rt_sub (by assumption) ?_ | with_reducible refine rt_lst (by assumption) ?_ | with_reducible refine rt_drop (by assumption) ?_ | with_reducible refine rt_keep (by assumption) (by assumption) ?_ | with_reducible refine rt_same ?_ | (refine fun (p : Addr) (_ : _ = none) => ?_) | refine join_gor gup_same rfl (by walk_at "side") ?_ | with_reducible refine lc_cons ?_ | with_reducible refine for_cons ?_ | refine join_go rfl (by walk_at "side") ?_ | refine And.intro (by first | with_reducible assumption | omega | exact mty_up | exact True.intro | (simp only [List.mem_cons, ofString_inj, String.reduceEq, true_or, or_true, List.length_map]; done) | with_reducible exact (rfl : (_ : Nat) = _) | exact (rfl : (_ : Option String) = _) | (refine small_line ?_; omega) | (walk_at "ll"; first | omega | (refine small_line ?_; omega) | fail) | (exact log_small (by omega)) | fail) ?_ | fail))
local macro_rules | `(tactic| walk_at "ll") => `(tactic| simp only [List.length_map, List.length_append, List.length_cons, List.length_nil, List.map_cons, List.map_nil, List.sum_cons, List.sum_nil, len_app, rng_length, ll_0, ll_1, ll_2, ll_3, ll_4, ll_5, ll_6, ll_7, ll_8, ll_9, ll_10, ll_11, ll_12, ll_13, ll_14, ll_15, ll_16, ll_17, ll_18, ll_19, ll_20, ll_21, ll_22, ll_23, ll_24, ll_25, ll_26, ll_27])
/-! ### rows, ways, what is shown -/
def Plc.isReg : Plc → Bool | .reg _ => true | .hid _ => false
def Ord.mt : Ord → Bool | .load _ _ => true | .store _ _ => true | _ => false
def Ord.seen : Ord → Bool | .store _ _ => true | .alu _ t _ _ => t.isReg | .move t _ => t.isReg | .put t _ => t.isReg | .load t _ => t.isReg
def Rw.mt (r : Rw) : Bool := r.os.any Ord.mt
def Rw.seen (r : Rw) : Bool := r.os.any Ord.seen
/-- from a row on, something seen ahead or not, a way comes to what may trap behind what is seen -/
inductive Sh (pr : List Rw) : Nat → Bool → Prop
  | hit {n : Nat} {r : Rw} : pr[n]? = some r → r.mt = true → Sh pr n true
  | step {n m : Nat} {s : Bool} {r : Rw} : pr[n]? = some r → m ∈ r.nx.nexts → Sh pr m (s || r.seen) → Sh pr n s
inductive Uw (pr : List Rw) : Nat → Bool → List Nat → Prop
  | hit {n : Nat} {r : Rw} : pr[n]? = some r → r.mt = true → Uw pr n true [n]
  | step {n m : Nat} {s : Bool} {r : Rw} {l : List Nat} : pr[n]? = some r → (s && r.mt) = false → m ∈ r.nx.nexts → Sh pr m (s || r.seen) → (∀ k ∈ r.nx.nexts, Sh pr k (s || r.seen) → m ≤ k) → Uw pr m (s || r.seen) l → Uw pr n s (n :: l)
def Fwd (pr : List Rw) : Prop := ∀ (i : Nat) (r : Rw), pr[i]? = some r → ∀ m ∈ r.nx.nexts, i < m ∧ m < pr.length
def sp_nexts_of : DSp := fun ds G R => ∃ x : Nx, ds = [x.d] ∧ R (.lst (x.nexts.map fun n => .int (n : Nat))) G
theorem ok_nexts_of {P : Program} {w : World} {K : PySem.W.Frag} {mg : Str → Option Value} {base : Heap} {a : Ad} (T : TxB w K mg base a) : FnD P w K mg base 1 a.f_nexts_of a.fd_nexts_of ["further"] sp_nexts_of := by
  refine fun_okD T.F_nexts_of sc_nexts_of (fun ds G R h => ?_) (fun cdv A outer s H hr => ⟨_, (qss_cons (qs_if (qt_cmp (od_eq hr.units) (qe_ix xd_ix (qv 0) qe_int (fun _ _ => rfl)) qe_str (nomark _))
      (qss_one (qs_ret (qe_lst false (qa_cons (qe_ix xd_ix (qv 0) qe_int (fun _ _ => rfl)) qa_nil))))
      qss_nil)
      (qss_cons (qs_if (qt_cmp (od_eq hr.units) (qe_ix xd_ix (qv 0) qe_int (fun _ _ => rfl)) qe_str (nomark _))
      (qss_one (qs_ret (qe_lst false (qa_cons (qe_ix xd_ix (qv 0) qe_int (fun _ _ => rfl)) (qa_cons (qe_ix xd_ix (qv 0) qe_int (fun _ _ => rfl)) qa_nil)))))
      qss_nil)
      (qss_one (qs_ret (qe_lst false qa_nil))))), fun ds G R h => ?_⟩)
  · obtain ⟨x, rfl, _⟩ := h; rfl
  · obtain ⟨x, rfl, h⟩ := h
    cases x with
    | fin => unfold Nx.d; walk_at "go"; exact h
    | go n => unfold Nx.d; walk_at "go"; exact h
    | test p i j => unfold Nx.d; walk_at "go"; exact h
theorem go_nexts (x : Nx) {G : Gp} {R : DK} (k : R (.lst (x.nexts.map fun n => .int (n : Nat))) G) : sp_nexts_of [x.d] G R := ⟨x, rfl, k⟩
def sp_may_trap : DSp := fun ds G R => ∃ os : List Ord, ds = [.tup (os.map Ord.d)] ∧ os.length ≤ 1000 ∧ R (.bl (os.any Ord.mt)) G
theorem ok_may_trap {P : Program} {w : World} {K : PySem.W.Frag} {mg : Str → Option Value} {base : Heap} {a : Ad} (T : TxB w K mg base a) : FnD P w K mg base 1 a.f_may_trap a.fd_may_trap ["orders"] sp_may_trap := by
  refine fun_okD T.F_may_trap sc_may_trap (fun ds G R h => ?_) (fun cdv A outer s H hr => ⟨_, (qss_one (qs_ret (qe_callB (cd_any rfl) rfl T.n_any (by decide +kernel) (qa_cons (qe_lc false rfl sc_may_trap.nd (qi_seq (qv 0)) (blkOk_by (own := [("order", 1)]) (N := N_may_trap) (sc := defScope s_may_trap) (by decide +kernel)) (fun _ _ _ _ _ => (pg_name (i := 1) sc_may_trap.nd rfl (.inl rfl))) (tg_name (i := 1) (by decide)) (fun _ _ _ _ _ => qts_nil) (fun _ _ _ _ _ => (qe_cmp (od_inE (room100 hr)) (qe_ix xd_ix (qv 1) qe_int (fun _ _ => rfl)) (qe_tup (qa_cons qe_str (qa_cons qe_str qa_nil))) rfl))) qa_nil)))), fun ds G R h => ?_⟩)
  · obtain ⟨x, rfl, _⟩ := h; rfl
  · obtain ⟨os, rfl, hl, h⟩ := h
    walk_at "go"
    refine any_typ Ord.d Ord.mt True.intro os (fun o ho Q q => ?_) (by walk_at "go"; exact h)
    have key : ∀ z : String, decide ((z : Str) ∈ [(("load" : String) : Str), (("store" : String) : Str)]) = o.mt → ∀ (G' : Gp), G' = G → dInE id (.str (z : Str)) (.tup [.str (("load" : String) : Str), .str (("store" : String) : Str)]) G' Q := fun z e G' eG => by
      subst eG
      refine inE_tupS (zs := [(("load" : String) : Str), (("store" : String) : Str)]) (py_of z) (fun y hy => ?_) (by rw [e]; exact q)
      simp only [List.mem_cons, List.not_mem_nil, or_false] at hy
      rcases hy with rfl | rfl <;> exact py_of _
    cases o <;> (unfold Ord.d; walk_at "go"; exact key _ (by simp only [List.mem_cons, ofString_inj, String.reduceEq, List.not_mem_nil, or_false, false_or, or_true, true_or, decide_true, decide_false]; rfl) _ rfl)
theorem go_may_trap {os : List Ord} {G : Gp} {R : DK} (hl : os.length ≤ 1000) (k : R (.bl (os.any Ord.mt)) G) : sp_may_trap [.tup (os.map Ord.d)] G R := ⟨os, rfl, hl, k⟩
theorem seen_d (p : Plc) {G : Gp} {R : DK} (k : R (.bl p.isReg) G) : dIx p.d (.int 0) G fun x G1 => dEq x (.str (("reg" : String) : Str)) G1 R := by
  cases p with
  | reg x => unfold Plc.d; walk_at "go"; exact k
  | hid x => unfold Plc.d; walk_at "go"; exact k
def sp_is_seen : DSp := fun ds G R => ∃ os : List Ord, ds = [.tup (os.map Ord.d)] ∧ os.length ≤ 1000 ∧ R (.bl (os.any Ord.seen)) G
theorem ok_is_seen {P : Program} {w : World} {K : PySem.W.Frag} {mg : Str → Option Value} {base : Heap} {a : Ad} (T : TxB w K mg base a) : FnD P w K mg base 1 a.f_is_seen a.fd_is_seen ["orders"] sp_is_seen := by
  refine fun_okD T.F_is_seen sc_is_seen (fun ds G R h => ?_) (fun cdv A outer s H hr => ⟨_, (qss_one (qs_ret (qe_callB (cd_any rfl) rfl T.n_any (by decide +kernel) (qa_cons (qe_lc false rfl sc_is_seen.nd (qi_seq (qv 0)) (blkOk_by (own := [("order", 1)]) (N := N_is_seen) (sc := defScope s_is_seen) (by decide +kernel)) (fun _ _ _ _ _ => (pg_name (i := 1) sc_is_seen.nd rfl (.inl rfl))) (tg_name (i := 1) (by decide)) (fun _ _ _ _ _ => qts_nil) (fun _ _ _ _ _ => (qe_or (qe_cmp (od_eq hr.units) (qe_ix xd_ix (qv 1) qe_int (fun _ _ => rfl)) qe_str (nomark _)) (qe_one (qe_cmp (od_eq hr.units) (qe_ix xd_ix (qe_ix xd_ix (qv 1) (qe_op (od_add false) qe_int (qe_callTy cd_int rfl T.n_int (by decide +kernel) (qa_cons (qe_cmp (od_eq hr.units) (qe_ix xd_ix (qv 1) qe_int (fun _ _ => rfl)) qe_str (nomark _)) qa_nil))) (fun _ _ => rfl)) qe_int (fun _ _ => rfl)) qe_str (nomark _)))))) qa_nil)))), fun ds G R h => ?_⟩)
  · obtain ⟨x, rfl, _⟩ := h; rfl
  · obtain ⟨os, rfl, hl, h⟩ := h
    walk_at "go"
    refine any_typ Ord.d Ord.seen True.intro os (fun o ho Q q => ?_) (by walk_at "go"; exact h)
    cases o <;> (unfold Ord.d; walk_at "go"; first | exact q | (refine seen_d _ ?_; exact q))
theorem go_is_seen {os : List Ord} {G : Gp} {R : DK} (hl : os.length ≤ 1000) (k : R (.bl (os.any Ord.seen)) G) : sp_is_seen [.tup (os.map Ord.d)] G R := ⟨os, rfl, hl, k⟩
/-! ### shows: a search by a stack and a dict -/
def nodeD (x : Nat × Bool) : D := .tup [.int (x.1 : Nat), .bl x.2]
theorem node_eq (x y : Nat × Bool) : eqD (nodeD x) (nodeD y) = decide (x = y) := by
  obtain ⟨a, b⟩ := x
  obtain ⟨c, d⟩ := y
  simp only [nodeD, eqD, eqDs, Bool.and_true]
  rw [Bool.eq_iff_iff]
  simp [Prod.ext_iff]
  intro _; omega
theorem node_ky (x : Nat × Bool) : kyD (nodeD x) = true ∧ depD (nodeD x) ≤ 8 := by simp [nodeD, kyD, kyDs, depD, depDs]
def succs (pr : List Rw) (x : Nat × Bool) : List (Nat × Bool) := match pr[x.1]? with | some r => r.nx.nexts.map fun m => (m, x.2 || r.seen) | none => []
def hitN (pr : List Rw) (x : Nat × Bool) : Bool := match pr[x.1]? with | some r => x.2 && r.mt | none => false
theorem sh_of_succ {pr : List Rw} {x y : Nat × Bool} (h : y ∈ succs pr x) (hs : Sh pr y.1 y.2) : Sh pr x.1 x.2 := by
  unfold succs at h
  split at h
  · rename_i r e
    obtain ⟨m, hm, rfl⟩ := List.mem_map.mp h
    exact .step e hm hs
  · cases h
theorem sh_of_hit {pr : List Rw} {x : Nat × Bool} (h : hitN pr x = true) : Sh pr x.1 x.2 := by
  unfold hitN at h
  split at h
  · rename_i r e
    rw [Bool.and_eq_true] at h
    rw [h.1]
    exact .hit e h.2
  · cases h
structure ShI (pr : List Rw) (st : Nat × Bool) (L Kn : List (Nat × Bool)) (n : Nat) : Prop where
  inL : ∀ x ∈ L, x.1 < pr.length
  inK : ∀ x ∈ Kn, x.1 < pr.length
  nd : Kn.Nodup
  back : ∀ x ∈ L, Sh pr x.1 x.2 → Sh pr st.1 st.2
  start : st ∈ L ∨ st ∈ Kn
  clo : ∀ x ∈ Kn, hitN pr x = false ∧ ∀ y ∈ succs pr x, y ∈ L ∨ y ∈ Kn
  mes : 3 * (2 * pr.length - Kn.length) + L.length ≤ n
section
variable {pr : List Rw} {st x : Nat × Bool} {L Kn : List (Nat × Bool)} {n : Nat}
theorem ShI.kn_lt (I : ShI pr st (L ++ [x]) Kn n) (h : x ∉ Kn) : Kn.length + 1 ≤ 2 * pr.length := by
  have h1 : (x :: Kn).Nodup := List.nodup_cons.mpr ⟨h, I.nd⟩
  have h2 := nodup_sub (l2 := (List.range pr.length).flatMap fun i => [(i, true), (i, false)]) h1 (fun y hy => by
    have hy1 : y.1 < pr.length := by
      rcases List.mem_cons.mp hy with rfl | hy
      · exact I.inL _ (by simp)
      · exact I.inK y hy
    rw [List.mem_flatMap]
    refine ⟨y.1, List.mem_range.mpr hy1, ?_⟩
    obtain ⟨i, b⟩ := y
    cases b <;> simp)
  have h3 : ∀ l : List Nat, (l.flatMap fun i => [(i, true), (i, false)]).length = 2 * l.length := fun l => by
    induction l with
    | nil => rfl
    | cons a l ih => rw [List.flatMap_cons, List.length_append, ih, List.length_cons]; simp only [List.length_cons, List.length_nil]; omega
  rw [h3, List.length_range, List.length_cons] at h2
  exact h2
theorem ShI.skip (I : ShI pr st (L ++ [x]) Kn (n + 1)) (h : x ∈ Kn) : ShI pr st L Kn n where
  inL := fun y hy => I.inL y (List.mem_append_left _ hy)
  inK := I.inK
  nd := I.nd
  back := fun y hy => I.back y (List.mem_append_left _ hy)
  start := by
    rcases I.start with h1 | h1
    · rcases List.mem_append.mp h1 with h1 | h1
      · exact .inl h1
      · rw [List.mem_singleton] at h1; subst h1; exact .inr h
    · exact .inr h1
  clo := fun y hy => ⟨(I.clo y hy).1, fun z hz => by
    rcases (I.clo y hy).2 z hz with h1 | h1
    · rcases List.mem_append.mp h1 with h1 | h1
      · exact .inl h1
      · rw [List.mem_singleton] at h1; subst h1; exact .inr h
    · exact .inr h1⟩
  mes := by have := I.mes; simp only [List.length_append, List.length_cons, List.length_nil] at this; omega
theorem ShI.found (I : ShI pr st (L ++ [x]) Kn n) (h : hitN pr x = true) : Sh pr st.1 st.2 := I.back x (by simp) (sh_of_hit h)
theorem ShI.take (I : ShI pr st (L ++ [x]) Kn (n + 1)) (h : x ∉ Kn) (hh : hitN pr x = false) (hin : ∀ y ∈ succs pr x, y.1 < pr.length) (h2 : (succs pr x).length ≤ 2) : ShI pr st (L ++ succs pr x) (Kn ++ [x]) n where
  inL := fun y hy => by
    rcases List.mem_append.mp hy with hy | hy
    · exact I.inL y (List.mem_append_left _ hy)
    · exact hin y hy
  inK := fun y hy => by
    rcases List.mem_append.mp hy with hy | hy
    · exact I.inK y hy
    · rw [List.mem_singleton] at hy; subst hy; exact I.inL _ (by simp)
  nd := List.nodup_append.mpr ⟨I.nd, by simp, fun a ha b hb e => by rw [List.mem_singleton] at hb; subst hb; subst e; exact h ha⟩
  back := fun y hy hs => by
    rcases List.mem_append.mp hy with hy | hy
    · exact I.back y (List.mem_append_left _ hy) hs
    · exact I.back x (by simp) (sh_of_succ hy hs)
  start := by
    rcases I.start with h1 | h1
    · rcases List.mem_append.mp h1 with h1 | h1
      · exact .inl (List.mem_append_left _ h1)
      · exact .inr (List.mem_append_right _ h1)
    · exact .inr (List.mem_append_left _ h1)
  clo := fun y hy => by
    rcases List.mem_append.mp hy with hy | hy
    · refine ⟨(I.clo y hy).1, fun z hz => ?_⟩
      rcases (I.clo y hy).2 z hz with h1 | h1
      · rcases List.mem_append.mp h1 with h1 | h1
        · exact .inl (List.mem_append_left _ h1)
        · exact .inr (List.mem_append_right _ h1)
      · exact .inr (List.mem_append_left _ h1)
    · rw [List.mem_singleton] at hy; subst hy
      exact ⟨hh, fun z hz => .inl (List.mem_append_right _ hz)⟩
  mes := by
    have h1 := I.mes
    have h3 := I.kn_lt h
    simp only [List.length_append, List.length_cons, List.length_nil] at h1 ⊢
    omega
theorem ShI.done (I : ShI pr st [] Kn n) : ¬ Sh pr st.1 st.2 := by
  have key : ∀ {m : Nat} {s : Bool}, Sh pr m s → (m, s) ∉ Kn := by
    intro m s h
    induction h with
    | hit h1 h2 =>
      intro hk
      have := (I.clo _ hk).1
      unfold hitN at this
      simp only [h1, h2] at this
      cases this
    | step h1 h2 h3 ih =>
      rename_i n m s r
      intro hk
      refine ih ?_
      rcases (I.clo _ hk).2 (m, s || r.seen) (by unfold succs; simp only [h1]; exact List.mem_map.mpr ⟨m, h2, rfl⟩) with h4 | h4
      · cases h4
      · exact h4
  intro h
  rcases I.start with h1 | h1
  · cases h1
  · exact key h h1
end
abbrev knO (w : World) (Kn : List (Nat × Bool)) : GO := GO.dN w (encV nodeD (fun _ : Unit => .bl true) (Kn.map fun x => (x, ())))
theorem look_kn (Kn : List (Nat × Bool)) (x : Nat × Bool) : (lookV (Kn.map fun x => (x, ())) x).isSome = decide (x ∈ Kn) := by
  induction Kn with
  | nil => rfl
  | cons y Kn ih =>
    rw [List.map_cons, lookV_cons]
    by_cases e : y = x
    · subst e; simp
    · rw [if_neg e, ih, Bool.eq_iff_iff, decide_eq_true_eq, decide_eq_true_eq, List.mem_cons]
      exact ⟨.inr, fun h => h.resolve_left fun z => e z.symm⟩
theorem node_py : ∀ (L : List (Nat × Bool)), pyDs (L.map nodeD) = true ∧ depDs (L.map nodeD) ≤ 3
  | [] => ⟨rfl, by simp [depDs]⟩
  | x :: L => by
    obtain ⟨h1, h2⟩ := node_py L
    simp only [List.map_cons, pyDs, depDs, Bool.and_eq_true]
    exact ⟨⟨by simp [nodeD, pyD, pyDs], h1⟩, by simp only [nodeD, depD, depDs]; omega⟩
structure PrOk (pr : List Rw) : Prop where
  fwd : Fwd pr
  len : pr.length ≤ 400
  os : ∀ r ∈ pr, r.os.length ≤ 1000
theorem nexts2 (x : Nx) : x.nexts.length ≤ 2 := by cases x <;> simp [Nx.nexts]
noncomputable def shB (pr : List Rw) (n : Nat) (s : Bool) : Bool := @decide (Sh pr n s) (Classical.propDecidable _)
theorem shB_iff {pr : List Rw} {n : Nat} {s : Bool} : shB pr n s = true ↔ Sh pr n s := by unfold shB; exact @decide_eq_true_iff _ (Classical.propDecidable _)
theorem shB_f {pr : List Rw} {n : Nat} {s : Bool} (h : ¬ Sh pr n s) : shB pr n s = false := by rw [Bool.eq_false_iff]; exact fun z => h (shB_iff.mp z)
def sp_shows (w : World) : DSp := fun ds G R => ∃ (pr : List Rw) (n : Nat) (s : Bool), ds = [.tup (pr.map Rw.d), .int n, .bl s] ∧ PrOk pr ∧ n < pr.length ∧ R (.bl (shB pr n s)) G
theorem ok_shows {P : Program} {w : World} {K : PySem.W.Frag} {mg : Str → Option Value} {base : Heap} {a : Ad} (T : TxB w K mg base a) : FnD P w K mg base 2 a.f_shows a.fd_shows ["program", "number", "seen"] (sp_shows w) := by
  refine fun_okD T.F_shows sc_shows (fun ds G R h => ?_) (fun cdv A outer s H hr => ⟨_, (qss_cons (qs_set (i := 3) sc_shows.nd rfl (.inl rfl) (qe_lst true (qa_cons (qe_tup (qa_cons (qv 1) (qa_cons (qv 2) qa_nil))) qa_nil)))
      (qss_cons (qs_set (i := 4) sc_shows.nd rfl (.inl rfl) (qe_newW (w := w) rfl))
      (qss_cons (qs_while PassesOwn.never (qt_cmp (od_ne hr.units) (qv 3) (qe_lst false qa_nil) (nomark _))
      (qss_cons (qs_asg (qe_m0 PySem.F.plainAttrs_list PySem.F.slot_list_pop PySem.F.type_list_pop md_pop (qv 3)) (qg_of (pg_tup rfl (pgs_cons (pg_name (i := 5) sc_shows.nd rfl (.inl rfl)) (pgs_cons (pg_name (i := 6) sc_shows.nd rfl (.inr rfl)) pgs_nil))) (tg_names (is := [5, 6]) (ws := [5, 6]) (by decide) rfl)))
      (qss_cons (qs_if (qt_cmp (od_inXW (w := w) rfl (rm11 (room100 hr))) (qe_tup (qa_cons (qv 5) (qa_cons (qv 6) qa_nil))) (qv 4) rfl)
      (qss_one qs_continue)
      qss_nil)
      (qss_cons (qs_asg qe_bl (qg_sub (qv 4) (qe_tup (qa_cons (qv 5) (qa_cons (qv 6) qa_nil))) (sd_setW (w := w) rfl (rm11 (room100 hr)))))
      (qss_cons (qs_asg (qe_ix xd_ix (qv 0) (qv 5) (fun _ _ => rfl)) (qg_of (pg_tup rfl (pgs_cons (pg_name (i := 7) sc_shows.nd rfl (.inr rfl)) (pgs_cons (pg_name (i := 8) sc_shows.nd rfl (.inl rfl)) pgs_nil))) (tg_names (is := [7, 8]) (ws := [7, 8]) (by decide) rfl)))
      (qss_cons (qs_if (QW.pt (qw_and (qt_val (qv 6)) (qw_and1 (qt_val (qe_call (ok_may_trap T) (hr.mono (by omega)) rfl T.g_may_trap T.F_may_trap.kp T.b_may_trap (qa_cons (qv 7) qa_nil))))))
      (qss_one (qs_ret qe_bl))
      qss_nil)
      (qss_one (qs_expr (qe_m PySem.F.plainAttrs_list PySem.F.slot_list_extend PySem.F.type_list_extend md_extend (qv 3) (qa_cons (qe_lc true rfl sc_shows.nd (qi_seq (qe_call (ok_nexts_of T) (hr.mono (by omega)) rfl T.g_nexts_of T.F_nexts_of.kp T.b_nexts_of (qa_cons (qv 8) qa_nil))) (blkOk_by (own := [("one", 9)]) (N := N_shows) (sc := defScope s_shows) (by decide +kernel)) (fun _ _ _ _ _ => (pg_name (i := 9) sc_shows.nd rfl (.inl rfl))) (tg_name (i := 9) (by decide)) (fun _ _ _ _ _ => qts_nil) (fun _ _ _ _ _ => (qe_tup (qa_cons (qv 9) (qa_cons (qe_or (qv 6) (qe_one (qe_call (ok_is_seen T) (hr.mono (by omega)) rfl T.g_is_seen T.F_is_seen.kp T.b_is_seen (qa_cons (qv 7) qa_nil)))) qa_nil))))) qa_nil))))))))))
      (qss_one (qs_ret qe_bl))))), fun ds G R h => ?_⟩)
  · obtain ⟨pr, n, s, rfl, _⟩ := h; rfl
  · obtain ⟨pr, n, s, rfl, ok, hn, h⟩ := h
    walk_at "go"
    rename_i p np q nq
    have hp : G p = none := np
    have hq : G q = none := fresh_none nq
    have hpq : p ≠ q := fresh_ne nq
    refine ⟨_, wh_go (fun m σ' G' => ∃ (L Kn : List (Nat × Bool)) (x5 x6 x7 x8 : Option D), σ' = [some (.tup (pr.map Rw.d)), some (.int n), some (.bl s), some (.ref p), some (.ref q), x5, x6, x7, x8, none] ∧ Sub G G' ∧ G' p = some (.lst (L.map nodeD)) ∧ G' q = some (knO w Kn) ∧ m ≤ 6 * pr.length + 1 ∧ ShI pr (n, s) L Kn m) ?turn (6 * pr.length + 1) _ _ ⟨[(n, s)], [], none, none, none, none, rfl, ?i1, ?i2, ?i3, Nat.le_refl _, ?i4⟩⟩
    case i1 => exact Sub.put (Sub.put (Sub.refl G) hp) hq
    case i2 => rw [gup_ne hpq, gup_same]; rfl
    case i3 => exact gup_same
    case i4 =>
      refine ⟨fun x hx => ?_, fun x hx => (by cases hx), List.nodup_nil, fun x hx hs => ?_, .inl List.mem_cons_self, fun x hx => (by cases hx), ?_⟩
      · rw [List.mem_singleton] at hx; subst hx; exact hn
      · rw [List.mem_singleton] at hx; subst hx; exact hs
      · simp only [List.length_cons, List.length_nil]; omega
    case turn =>
      rintro m σ' G1 ⟨L, Kn, x5, x6, x7, x8, rfl, hS, ep, eq_, hmb, I⟩ N hN
      walk_at "go"
      show dEqW not (.ref p) (.lst []) G1 _
      rw [eqW_rl ep]
      obtain ⟨py1, py2⟩ := node_py L
      show dNe (.lst (L.map nodeD)) (.lst []) G1 _
      rw [ne_empty py1 (by omega)]
      rcases List.eq_nil_or_concat L with rfl | ⟨L, x, rfl⟩
      · simp only [List.map_nil, ne_eq, not_true_eq_false, decide_false]
        walk_at "go"
        rw [shB_f I.done] at h; exact h
      · rw [List.concat_eq_append] at ep I ⊢
        have hne : decide ((L ++ [x]).map nodeD ≠ []) = true := by simp
        rw [hne]
        obtain ⟨k, rfl⟩ : ∃ k, m = k + 1 := ⟨m - 1, by have := I.mes; simp only [List.length_append, List.length_cons, List.length_nil] at this; omega⟩
        have hx := I.inL x (by simp)
        walk_at "go"
        refine ⟨mty_at ep, ?_⟩
        rw [List.map_append, List.map_cons, List.map_nil] at ep
        refine pop_go ep ?_
        unfold nodeD
        walk_at "go"
        have eqq : gup G1 p (.lst (L.map nodeD)) q = some (knO w Kn) := by rw [gup_ne hpq.symm]; exact eq_
        refine inV_go (k := x) node_eq eqq (node_ky x).1 (node_ky x).2 ?_
        rw [look_kn]
        by_cases hk : x ∈ Kn
        · rw [decide_eq_true hk]
          walk_at "go"
          exact hN k _ _ rfl ⟨L, Kn, _, _, _, _, rfl, Sub.put hS hp, gup_same, eqq, by omega, I.skip hk⟩
        · rw [decide_eq_false hk]
          walk_at "go"
          have hkl := I.kn_lt hk
          have hpl := ok.len
          refine setV_go (k := x) (z := ()) node_eq eqq (node_ky x).1 (node_ky x).2 (by rw [List.length_map]; omega) (by rw [List.map_map]; simpa using hk) ?_
          obtain ⟨r, hr⟩ : ∃ r, pr[x.1]? = some r := ⟨pr[x.1], List.getElem?_eq_getElem hx⟩
          have hix : atI (pr.map Rw.d) (x.1 : Nat) = some r.d := atI_nat (by rw [List.getElem?_map, hr]; rfl)
          walk_at "go"
          rw [hix]
          rw [show r.d = .tup [.tup (r.os.map Ord.d), r.nx.d] from rfl]
          walk_at "go"
          have hro := ok.os r (List.mem_of_getElem? hr)
          have eq3 : gup (gup G1 p (.lst (L.map nodeD))) q (GO.dN w (encV nodeD (fun _ : Unit => .bl true) (Kn.map (fun x => (x, ())) ++ [(x, ())]))) = gup (gup G1 p (.lst (L.map nodeD))) q (knO w (Kn ++ [x])) := by
            unfold knO; rw [List.map_append]; rfl
          rw [eq3]
          have hS2 : Sub G (gup (gup G1 p (.lst (L.map nodeD))) q (knO w (Kn ++ [x]))) := Sub.put (Sub.put hS hp) hq
          have hsx : hitN pr x = (x.2 && r.os.any Ord.mt) := by unfold hitN; simp only [hr]; rfl
          generalize eG2 : gup (gup G1 p (.lst (L.map nodeD))) q (knO w (Kn ++ [x])) = G2 at hS2 ⊢
          have ep2 : G2 p = some (.lst (L.map nodeD)) := by rw [← eG2, gup_ne hpq, gup_same]
          have eq2 : G2 q = some (knO w (Kn ++ [x])) := by rw [← eG2, gup_same]
          have hsu : succs pr x = r.nx.nexts.map fun m => (m, x.2 || r.seen) := by unfold succs; simp only [hr]
          refine br_go2 (c := r.os.any Ord.mt) (fun k => go_may_trap hro k) (fun hb => ?_) (fun hh => ?_)
          · walk_at "go"
            rw [shB_iff.mpr (I.found (by rw [hsx, hb]))] at h
            exact h
          · rw [← hsx] at hh
            walk_at "go"
            refine ⟨mty_at ep2, go_nexts _ ?_⟩
            walk_at "go"
            refine ⟨small_line (by rw [List.length_map]; have := nexts2 r.nx; omega), ?_⟩
            refine lc_typ (fun n : Nat => D.int n) (fun m => nodeD (m, x.2 || r.seen)) True.intro _ [] (fun m hm Q q => ?_) _ ?_
            · walk_at "go"
              refine br_go (fun e => ?_) (fun e => go_is_seen hro ?_)
              · rw [e] at q
                exact ⟨small_line (by decide), q⟩
              · rw [e] at q
                exact ⟨small_line (by decide), q⟩
            · intro p' np'
              have hpp : p ≠ p' := fun z => by subst z; rw [ep2] at np'; cases np'
              have hqp : q ≠ p' := fun z => by subst z; rw [eq2] at np'; cases np'
              have h2 := nexts2 r.nx
              have hme := I.mes
              simp only [List.length_append, List.length_cons, List.length_nil] at hme
              have hll : L.length ≤ 6 * pr.length + 10 := by have := hmb; omega
              refine ext_go (by rw [gup_ne hpp]; exact ep2) gup_same (by rw [sizeLine_eq]; simp only [List.length_append, List.length_map, List.length_nil]; omega) ?_
              refine hN k _ _ rfl ⟨L ++ succs pr x, Kn ++ [x], _, _, _, _, rfl, Sub.put (Sub.news hS2 np') hp, ?_, ?_, by omega, I.take hk hh (fun y hy => ?_) (by rw [hsu, List.length_map]; exact h2)⟩
              · rw [gup_same, hsu, List.map_append, List.map_map]; rfl
              · rw [gup_ne hpq.symm, gup_ne hqp]; exact eq2
              · rw [hsu] at hy
                obtain ⟨m, hm, rfl⟩ := List.mem_map.mp hy
                exact (ok.fwd x.1 r hr m hm).2
/-! ### unsafe_way -/
abbrev intsN (l : List Nat) : List D := l.map fun n => .int (n : Nat)
theorem sh_next {pr : List Rw} {n : Nat} {s : Bool} {r : Rw} (hr : pr[n]? = some r) (h : Sh pr n s) (hh : (s && r.mt) = false) : ∃ m ∈ r.nx.nexts, Sh pr m (s || r.seen) := by
  cases h with
  | hit h1 h2 =>
    rw [hr] at h1; cases h1
    rw [h2] at hh; cases hh
  | step h1 h2 h3 =>
    rw [hr] at h1; cases h1
    exact ⟨_, h2, h3⟩
def sp_unsafe_way (w : World) : DSp := fun ds G R => ∃ (m : D) (pr : List Rw), ds = [m, .tup (pr.map Rw.d)] ∧ PrOk pr ∧ 0 < pr.length ∧ (¬ Sh pr 0 false → R .non G) ∧ (∀ l, Uw pr 0 false l → R (.tup (intsN l)) G)
theorem ok_unsafe_way {P : Program} {w : World} {K : PySem.W.Frag} {mg : Str → Option Value} {base : Heap} {a : Ad} (T : TxB w K mg base a) : FnD P w K mg base 3 a.f_unsafe_way a.fd_unsafe_way ["machine", "program"] (sp_unsafe_way w) := by
  refine fun_okD T.F_unsafe_way sc_unsafe_way (fun ds G R h => ?_) (fun cdv A outer s H hr => ⟨_, (qss_cons (qs_if (qt_not (qt_val (qe_call (ok_shows T) (hr.mono (by omega)) rfl T.g_shows T.F_shows.kp T.b_shows (qa_cons (qv 1) (qa_cons qe_int (qa_cons qe_bl qa_nil))))))
      (qss_one (qs_ret qe_non))
      qss_nil)
      (qss_cons (qs_set (i := 2) sc_unsafe_way.nd rfl (.inl rfl) (qe_tup qa_nil))
      (qss_cons (qs_set (i := 3) sc_unsafe_way.nd rfl (.inl rfl) qe_int)
      (qss_cons (qs_set (i := 4) sc_unsafe_way.nd rfl (.inr rfl) qe_bl)
      (qss_one (qs_while PassesOwn.never (qt_val qe_bl)
      (qss_cons (qs_set (i := 2) sc_unsafe_way.nd rfl (.inl rfl) (qe_op (od_add false) (qv 2) (qe_tup (qa_cons (qv 3) qa_nil))))
      (qss_cons (qs_asg (qe_ix xd_ix (qv 1) (qv 3) (fun _ _ => rfl)) (qg_of (pg_tup rfl (pgs_cons (pg_name (i := 5) sc_unsafe_way.nd rfl (.inl rfl)) (pgs_cons (pg_name (i := 6) sc_unsafe_way.nd rfl (.inl rfl)) pgs_nil))) (tg_names (is := [5, 6]) (ws := [5, 6]) (by decide) rfl)))
      (qss_cons (qs_if (QW.pt (qw_and (qt_val (qv 4)) (qw_and1 (qt_val (qe_call (ok_may_trap T) (hr.mono (by omega)) rfl T.g_may_trap T.F_may_trap.kp T.b_may_trap (qa_cons (qv 5) qa_nil))))))
      (qss_one (qs_ret (qv 2)))
      qss_nil)
      (qss_cons (qs_set (i := 4) sc_unsafe_way.nd rfl (.inr rfl) (qe_or (qv 4) (qe_one (qe_call (ok_is_seen T) (hr.mono (by omega)) rfl T.g_is_seen T.F_is_seen.kp T.b_is_seen (qa_cons (qv 5) qa_nil)))))
      (qss_one (qs_set (i := 3) sc_unsafe_way.nd rfl (.inl rfl) (qe_callB (cd_minL rfl) rfl T.n_min (by decide +kernel) (qa_cons (qe_lc false rfl sc_unsafe_way.nd (qi_seq (qe_call (ok_nexts_of T) (hr.mono (by omega)) rfl T.g_nexts_of T.F_nexts_of.kp T.b_nexts_of (qa_cons (qv 6) qa_nil))) (blkOk_by (own := [("one", 7)]) (N := N_unsafe_way) (sc := defScope s_unsafe_way) (by decide +kernel)) (fun _ _ _ _ _ => (pg_name (i := 7) sc_unsafe_way.nd rfl (.inl rfl))) (tg_name (i := 7) (by decide)) (fun _ _ _ _ _ => (qts_one (qt_val (qe_call (ok_shows T) (hr.mono (by omega)) rfl T.g_shows T.F_shows.kp T.b_shows (qa_cons (qv 1) (qa_cons (qv 7) (qa_cons (qv 4) qa_nil))))))) (fun _ _ _ _ _ => (qv 7))) qa_nil)))))))))))))), fun ds G R h => ?_⟩)
  · obtain ⟨m, pr, rfl, _⟩ := h; rfl
  · obtain ⟨m, pr, rfl, ok, h0, h1, h2⟩ := h
    walk_at "go"
    refine ⟨pr, 0, false, rfl, ok, h0, ?_⟩
    walk_at "go"
    cases hb : shB pr 0 false with
    | false =>
      walk_at "go"
      exact h1 (fun z => by rw [shB_iff.mpr z] at hb; cases hb)
    | true =>
      have hS : Sh pr 0 false := shB_iff.mp hb
      walk_at "go"
      refine ⟨_, wh_go (fun m' σ' G' => ∃ (acc : List Nat) (n : Nat) (s : Bool) (x5 x6 : Option D), σ' = [some m, some (.tup (pr.map Rw.d)), some (.tup (intsN acc)), some (.int n), some (.bl s), x5, x6, none] ∧ G' = G ∧ Sh pr n s ∧ n < pr.length ∧ acc.length ≤ n ∧ pr.length - n ≤ m' ∧ ∀ l, Uw pr n s l → R (.tup (intsN (acc ++ l))) G) ?turn pr.length _ _ ⟨[], 0, false, none, none, rfl, rfl, hS, h0, Nat.le_refl _, by omega, h2⟩⟩
      case turn =>
        rintro m' σ' G' ⟨acc, n, s, x5, x6, rfl, rfl, hS, hn, hl, hm, hU⟩ N hN
        have hpl := ok.len
        obtain ⟨r, hr⟩ : ∃ r, pr[n]? = some r := ⟨pr[n], List.getElem?_eq_getElem hn⟩
        have hix : atI (pr.map Rw.d) (n : Nat) = some r.d := atI_nat (by rw [List.getElem?_map, hr]; rfl)
        have hro := ok.os r (List.mem_of_getElem? hr)
        have eacc : intsN acc ++ [D.int (n : Nat)] = intsN (acc ++ [n]) := by simp [intsN]
        walk_at "go"
        rw [eacc, hix]
        rw [show r.d = .tup [.tup (r.os.map Ord.d), r.nx.d] from rfl]
        walk_at "go"
        refine br_go2 (c := r.os.any Ord.mt) (fun k => go_may_trap hro k) (fun hb => ?_) (fun hh => ?_)
        · walk_at "go"
          rw [Bool.and_eq_true] at hb
          exact hU [n] (by rw [hb.1]; exact .hit hr hb.2)
        · walk_at "go"
          have tail : ∀ (N2 : Sd → Gp → Prop), (N2 [some m, some (.tup (pr.map Rw.d)), some (.tup (intsN (acc ++ [n]))), some (.int n), some (.bl (s || r.seen)), some (.tup (r.os.map Ord.d)), some r.nx.d, none] G') → br s (N2 [some m, some (.tup (pr.map Rw.d)), some (.tup (intsN (acc ++ [n]))), some (.int n), some (.bl true), some (.tup (r.os.map Ord.d)), some r.nx.d, none] G') (sp_is_seen [.tup (r.os.map Ord.d)] G' fun x G1 => N2 [some m, some (.tup (pr.map Rw.d)), some (.tup (intsN (acc ++ [n]))), some (.int n), some x, some (.tup (r.os.map Ord.d)), some r.nx.d, none] G1) := fun N2 h => by
            refine br_go (fun e => ?_) (fun e => go_is_seen hro ?_)
            · rw [e] at h; exact h
            · rw [e] at h; exact h
          refine tail _ ?_
          walk_at "go"
          refine go_nexts _ ?_
          walk_at "go"
          generalize hs' : (s || r.seen) = s'
          obtain ⟨k0, hk0, hS0⟩ := sh_next hr hS hh
          rw [hs'] at hS0
          refine ⟨small_line (by rw [List.length_map]; have := nexts2 r.nx; omega), ?_⟩
          refine lc_flt (fun n : Nat => D.int n) (fun m => if shB pr m s' = true then some (.int (m : Nat)) else none) True.intro _ [] (fun x hx N2 acc2 hN2 => ?_) _ ?_
          · walk_at "go"
            refine ⟨pr, x, s', rfl, ok, (ok.fwd n r hr x hx).2, ?_⟩
            walk_at "go"
            cases e : shB pr x s' with
            | true => rw [e] at hN2; exact hN2
            | false => rw [e] at hN2; simpa using hN2
          · have ef : ∀ l : List Nat, [] ++ l.filterMap (fun m => if shB pr m s' = true then some (D.int (m : Nat)) else none) = ((l.filter fun m => shB pr m s').map fun m => ((m : Nat) : Int)).map D.int := fun l => by
              induction l with
              | nil => rfl
              | cons a l ih =>
                rw [List.nil_append] at ih ⊢
                cases e : shB pr a s' with
                | true => simp [List.filterMap_cons, List.filter_cons, e] at ih ⊢; exact ih
                | false => simp [List.filterMap_cons, List.filter_cons, e] at ih ⊢; exact ih
            rw [ef]
            have hk0' : k0 ∈ r.nx.nexts.filter fun m => shB pr m s' := List.mem_filter.mpr ⟨hk0, shB_iff.mpr hS0⟩
            refine ⟨_, _, rfl, rfl, by rw [List.length_map]; exact List.length_pos_of_mem hk0', fun z hz1 hz2 => ?_⟩
            obtain ⟨k, hk, rfl⟩ := List.mem_map.mp hz1
            obtain ⟨hk1, hk2⟩ := List.mem_filter.mp hk
            have hkS := shB_iff.mp hk2
            have hf := ok.fwd n r hr k hk1
            refine hN (m' - 1) _ _ (by omega) ⟨acc ++ [n], k, s', _, _, rfl, rfl, hkS, hf.2, by simp only [List.length_append, List.length_cons, List.length_nil]; omega, by omega, fun l hl => ?_⟩
            rw [List.append_assoc]
            refine hU (n :: l) (.step hr hh hk1 (by rw [hs']; exact hkS) (fun j hj hjS => ?_) (by rw [hs']; exact hl))
            rw [hs'] at hjS
            have := hz2 _ (List.mem_map.mpr ⟨j, List.mem_filter.mpr ⟨hj, shB_iff.mpr hjS⟩, rfl⟩)
            omega
end K64


set_option Elab.async false
set_option linter.all false
set_option maxRecDepth 100000
set_option maxHeartbeats 4000000
set_option autoImplicit false
namespace K64
open PySem PySem.Spec PyProof.Rows L2 DL
local macro_rules | `(tactic| walk_at "d") => `(tactic| dsimp only [dSeq, dNext, dIfS, dRet, dRetN, dAsg, dName, dVar, dC, dOp, dUn, dChain, dB, dAnd, dOr, dNot, dAndV, dOrV, dNotV, dIf, dNil, dCons, dTup, dLst, newL, dCallB, dCall, dCallK, dDrop, dAug, dAugS, dSub, dM, dM0, dSlice, dNoPart, dPart, dLc, dYes, dFor, dIter, dRng1, dEnum, dZipM, srcD, dStar, dInK, dIxK, dLenSet, dRev,
  startD, wipeD, setAll, dNames, List.map_cons, List.map_nil, List.length_cons, List.length_nil, List.replicate, List.cons_append, List.nil_append, List.append_nil, List.getElem?_cons_zero, List.getElem?_cons_succ, List.set_cons_zero, List.set_cons_succ, List.map, Nat.zero_add, Nat.reduceAdd, Nat.reduceSub, Nat.sub_self, Nat.succ_sub_succ_eq_sub])
local macro_rules | `(tactic| walk_at "o") => `(tactic| simp only [dAdd_ii, dAdd_ss, dAdd_tt, dAdd_ll, dMinus_ii, dMul_ii, dMod_ii, dFdiv_ii, dPow_ii, dShl_ii, dNeg_i, dIadd_ii, dLt_ii, dLe_ii, dGt_ii, dGe_ii, dEq_ii, dNe_ii, dEq_ss, dNe_ss, dEq_bb, dNe_bb, dIs_n, dIsNot_n, dMax2_ii, dMin2_ii, dTuple_t, dTuple_l, dList_t, dList_l, dIx_t, dIx_l, dIx_s, dSl_t, dSl_l, dSl_s, newL_f, len_tup, len_lst])
local macro_rules | `(tactic| walk_at "w") => `(tactic| dsimp only [x_var, x_c, x_op, x_un, x_b, x_and, x_or, x_not, x_chain, x_andV, x_orV, x_notV, x_if, x_nil, x_cons, x_tup, x_lst0, x_lst1, x_callB, x_call, x_callK, x_next, x_seq, x_break, x_cont, x_drop, x_ret, x_ifS, x_asg, x_name, x_names, x_sub, x_aug, x_augS, x_for, x_lc0, x_lc1, x_yes, x_noPart, x_part, x_slice, x_iter, it_t, it_l, it_n, it_s, it_r, x_rng1, x_enum, x_rev, x_m, x_m0, x_mX, x_zip, x_star_t, x_star_l, x_lenSet, x_forgo0, x_lcgo0, x_while, x_par, x_sortK,
  br_t, br_f, isB_bl, isI_int, isN_some, slo_some, atL_lst, ix_t, ix_l, ix_n,
  dAdd_ii, dAdd_ss, dAdd_tt, dAdd_ll, dMinus_ii, dMul_ii, dMod_ii, dFdiv_ii, dPow_ii, dShl_ii, dNeg_i, dIadd_ii, dLt_ii, dLe_ii, dGt_ii, dGe_ii, ltE_ii, ltE_ss, srcD, isi_i, isi_s, isi_b, isi_n, isi_t, isi_nt, isi_l, isi2_i, isi2_s, isi2_b, isi2_n, isi2_t, isi2_nt, isi2_l, inon_n, inon_i, inon_s, inon_b, inon_t, inon_l, inon_r, dEq_ii, dNe_ii, dEq_ss, dNe_ss, dEq_bb, dNe_bb, dIs_n, dIsNot_n, dMax2_ii, dMin2_ii, dTuple_t, dTuple_l, dList_t, dList_l, dSl_t, dSl_l, dSl_s, newL_f, newL_t, app_r, int_b, int_i, strI_i, strX_i, strX_s,
  startD, wipeD, setAll, permL, List.filterMap, List.map_cons, List.map_nil, List.length_cons, List.length_nil, List.replicate, List.cons_append, List.nil_append, List.append_nil, List.getElem?_cons_zero, List.getElem?_cons_succ, List.set_cons_zero, List.set_cons_succ, List.map, Nat.zero_add, Nat.reduceAdd, Nat.reduceSub, Nat.sub_self, Nat.succ_sub_succ_eq_sub])
local macro_rules | `(tactic| walk_at "v") => `(tactic| simp only [ofString_inj, String.reduceEq, at_0, at_1, at_2, at_3, at_4, at_5, isN_some, isBB_bl, isB_bl, br_t, br_f, br_not, br_and, br_or, br_dec, ix_r, len_tup, len_lst, len_nt, ltE_key, gup_gup, gup_same, starD_one, cut1, cut2, kt1, kt2, kt3, kt4, kt5, kt6, isTy, String.reduceBEq, Bool.or_false, Bool.false_or, Bool.true_or, Bool.or_true, Bool.and_false, Bool.false_and, Bool.true_and, Bool.and_true, Bool.not_true, Bool.not_false, decide_true, decide_false, eq_self_iff_true, Bool.false_eq_true, Int.reduceAdd, Int.add_zero, if_true, if_false, true_and, and_true])
local macro_rules | `(tactic| walk_at "side") => `(tactic| first | with_reducible assumption | omega | exact mty_up | exact True.intro | (simp only [List.mem_cons, ofString_inj, String.reduceEq, true_or, or_true, List.length_map]; done) | with_reducible exact (rfl : (_ : Nat) = _) | exact (rfl : (_ : Option String) = _) | (refine small_line ?_; omega) | (walk_at "ll"; first | omega | (refine small_line ?_; omega) | fail) | (exact log_small (by omega)) | fail)
local macro_rules | `(tactic| walk_at "x") => `(tactic| fail)
local macro_rules | `(tactic| walk_at "go") => `(tactic| repeat' (first | dsimp only [x_var, x_c, x_op, x_un, x_b, x_and, x_or, x_not, x_chain, x_andV, x_orV, x_notV, x_if, x_nil, x_cons, x_tup, x_lst0, x_lst1, x_callB, x_call, x_callK, x_next, x_seq, x_break, x_cont, x_drop, x_ret, x_ifS, x_asg, x_name, x_names, x_sub, x_aug, x_augS, x_for, x_lc0, x_lc1, x_yes, x_noPart, x_part, x_slice, x_iter, it_t, it_l, it_n, it_s, it_r, x_rng1, x_enum, x_rev, x_m, x_m0, x_mX, x_zip, x_star_t, x_star_l, x_lenSet, x_forgo0, x_lcgo0, x_while, x_par, x_sortK, br_t, br_f, isB_bl, isI_int, isN_some, slo_some, atL_lst, ix_t, ix_l, ix_n, dAdd_ii, dAdd_ss, dAdd_tt, dAdd_ll, dMinus_ii, dMul_ii, dMod_ii, dFdiv_ii, dPow_ii, dShl_ii, dNeg_i, dIadd_ii, dLt_ii, dLe_ii, dGt_ii, dGe_ii, ltE_ii, ltE_ss, srcD, isi_i, isi_s, isi_b, isi_n, isi_t, isi_nt, isi_l, isi2_i, isi2_s, isi2_b, isi2_n, isi2_t, isi2_nt, isi2_l, inon_n, inon_i, inon_s, inon_b, inon_t, inon_l, inon_r, dEq_ii, dNe_ii, dEq_ss, dNe_ss, dEq_bb, dNe_bb, dIs_n, dIsNot_n, dMax2_ii, dMin2_ii, dTuple_t, dTuple_l, dList_t, dList_l, dSl_t, dSl_l, dSl_s, newL_f, newL_t, app_r, int_b, int_i, strI_i, strX_i, strX_s, startD, wipeD, setAll, permL, List.filterMap, List.map_cons, List.map_nil, List.length_cons, List.length_nil, List.replicate, List.cons_append, List.nil_append, List.append_nil, List.getElem?_cons_zero, List.getElem?_cons_succ, List.set_cons_zero, List.set_cons_succ, List.map, Nat.zero_add, Nat.reduceAdd, Nat.reduceSub, Nat.sub_self, Nat.succ_sub_succ_eq_sub] | simp only [ofString_inj, String.reduceEq, at_0, at_1, at_2, at_3, at_4, at_5, isN_some, isBB_bl, isB_bl, br_t, br_f, br_not, br_and, br_or, br_dec, ix_r, len_tup, len_lst, len_nt, ltE_key, gup_gup, gup_same, starD_one, cut1, cut2, kt1, kt2, kt3, kt4, kt5, kt6, isTy, String.reduceBEq, Bool.or_false, Bool.false_or, Bool.true_or, Bool.or_true, Bool.and_false, Bool.false_and, Bool.true_and, Bool.and_true, Bool.not_true, Bool.not_false, decide_true, decide_false, eq_self_iff_true, Bool.false_eq_true, Int.reduceAdd, Int.add_zero, if_true, if_false, true_and, and_true] | walk_at "x" | with_reducible refine kont_go ?_ | with_reducible refine rt_sub (by assumption) ?_ | with_reducible refine rt_lst (by assumption) ?_ | with_reducible refine rt_drop (by assumption) ?_ | with_reducible refine rt_keep (by assumption) (by assumption) ?_ | with_reducible refine rt_same ?_ | (refine fun (p : Addr) (_ : _ = none) => ?_) | refine join_gor gup_same rfl (by walk_at "side") ?_ | with_reducible refine lc_cons ?_ | with_reducible refine for_cons ?_ | refine join_go rfl (by walk_at "side") ?_ | refine And.intro (by first | with_reducible assumption | omega | exact mty_up | exact True.intro | (simp only [List.mem_cons, ofString_inj, String.reduceEq, true_or, or_true, List.length_map]; done) | with_reducible exact (rfl : (_ : Nat) = _) | exact (rfl : (_ : Option String) = _) | (refine small_line ?_; omega) | (walk_at "ll"; first | omega | (refine small_line ?_; omega) | fail) | (exact log_small (by omega)) | fail) ?_ | fail))
local macro_rules | `(tactic| walk_at "ll") => `(tactic| simp only [List.length_map, List.length_append, List.length_cons, List.length_nil, List.map_cons, List.map_nil, List.sum_cons, List.sum_nil, len_app, rng_length, ll_0, ll_1, ll_2, ll_3, ll_4, ll_5, ll_6, ll_7, ll_8, ll_9, ll_10, ll_11, ll_12, ll_13, ll_14, ll_15, ll_16, ll_17, ll_18, ll_19, ll_20, ll_21, ll_22, ll_23, ll_24, ll_25, ll_26, ll_27])
/-! ### all ways, by a stack -/
abbrev wayD (l : List Nat) : D := .tup (l.map fun n => .int (n : Nat))
inductive Wy (pr : List Rw) : List Nat → Nat → Prop
  | one : Wy pr [0] 0
  | snoc {l : List Nat} {n m : Nat} {r : Rw} : Wy pr l n → pr[n]? = some r → m ∈ r.nx.nexts → Wy pr (l ++ [m]) m
def Mx (pr : List Rw) (l : List Nat) : Prop := ∃ n r, Wy pr l n ∧ pr[n]? = some r ∧ r.nx.nexts = []
section
variable {pr : List Rw}
theorem Wy.last {l : List Nat} {n : Nat} (h : Wy pr l n) : ∃ l0, l = l0 ++ [n] := by
  cases h with
  | one => exact ⟨[], rfl⟩
  | snoc h1 _ _ => exact ⟨_, rfl⟩
theorem Wy.last_eq {l : List Nat} {n m : Nat} (h : Wy pr l n) (h' : Wy pr l m) : n = m := by
  obtain ⟨a, e⟩ := h.last
  obtain ⟨b, e'⟩ := h'.last
  rw [e] at e'
  have := congrArg List.getLast? e'
  simpa using this
theorem Wy.lt (hf : Fwd pr) (h0 : 0 < pr.length) {l : List Nat} {n : Nat} (h : Wy pr l n) : n < pr.length ∧ l.length ≤ n + 1 ∧ ∀ k ∈ l, k < pr.length := by
  induction h with
  | one => exact ⟨h0, Nat.le_refl _, fun k hk => by rw [List.mem_singleton.mp hk]; exact h0⟩
  | snoc h1 h2 h3 ih =>
    have := hf _ _ h2 _ h3
    refine ⟨this.2, by rw [List.length_append]; simp only [List.length_cons, List.length_nil]; omega, fun k hk => ?_⟩
    rcases List.mem_append.mp hk with hk | hk
    · exact ih.2.2 k hk
    · rw [List.mem_singleton.mp hk]; exact this.2
theorem Wy.pre {l l' : List Nat} {n n' : Nat} (h' : Wy pr l' n') (h : Wy pr l n) (hp : l <+: l') : l = l' ∨ ∃ r m, pr[n]? = some r ∧ m ∈ r.nx.nexts ∧ (l ++ [m]) <+: l' := by
  induction h' with
  | one =>
    obtain ⟨l0, e⟩ := h.last
    left
    have := hp.length_le
    rw [e] at this hp ⊢
    simp only [List.length_append, List.length_cons, List.length_nil] at this
    have : l0 = [] := List.length_eq_zero_iff.mp (by omega)
    subst this
    exact hp.eq_of_length rfl
  | @snoc l1 k m r h1 h2 h3 ih =>
    rcases List.prefix_concat_iff.mp hp with e | e
    · exact .inl e
    · rcases ih e with e2 | ⟨r', m', a1, a2, a3⟩
      · subst e2
        have := h.last_eq h1
        subst this
        exact .inr ⟨r, m, h2, h3, List.prefix_refl _⟩
      · exact .inr ⟨r', m', a1, a2, a3.trans (List.prefix_append _ _)⟩
theorem Mx.zero {l : List Nat} (h : Mx pr l) : [0] <+: l := by
  obtain ⟨n, r, h, _, _⟩ := h
  rename_i e1 e2
  clear e1 e2
  induction h with
  | one => exact List.prefix_refl _
  | snoc _ _ _ ih => exact (ih).trans (List.prefix_append _ _)
end
theorem atI_last {l0 : List Nat} {n : Nat} : atI ((l0 ++ [n]).map fun n => D.int (n : Nat)) (-1) = some (.int (n : Nat)) := by
  have hl : ((l0 ++ [n]).map fun n => D.int ((n : Nat) : Int)).length = l0.length + 1 := by simp
  unfold atI
  rw [hl]
  have : ixN (l0.length + 1) (-1) = some l0.length := by
    unfold ixN
    first
      | (rw [if_pos (by omega), if_pos (by omega)]; congr 1; omega)
      | (simp only []; split <;> first | (congr 1; omega) | omega)
      | (simp; omega)
  rw [this]
  show ((l0 ++ [n]).map fun n => D.int ((n : Nat) : Int))[l0.length]? = _
  rw [List.getElem?_map, List.getElem?_append_right (Nat.le_refl _)]
  simp
theorem way_py : ∀ l : List Nat, pyDs (l.map fun n => D.int (n : Nat)) = true ∧ depDs (l.map fun n => D.int (n : Nat)) ≤ 1
  | [] => ⟨rfl, by simp [depDs]⟩
  | n :: l => by
    obtain ⟨h1, h2⟩ := way_py l
    simp only [List.map_cons, pyDs, depDs, pyD, depD, Bool.and_eq_true]
    exact ⟨⟨trivial, h1⟩, by omega⟩
theorem ways_py : ∀ L : List (List Nat), pyDs (L.map wayD) = true ∧ depDs (L.map wayD) ≤ 5
  | [] => ⟨rfl, by simp [depDs]⟩
  | l :: L => by
    obtain ⟨h1, h2⟩ := ways_py L
    obtain ⟨h3, h4⟩ := way_py l
    simp only [List.map_cons, pyDs, depDs, pyD, depD, Bool.and_eq_true]
    exact ⟨⟨h3, h1⟩, by omega⟩
theorem eq_emptyL {ds : List D} {G : Gp} {R : DK} (h : pyDs ds = true) (hd : depDs ds ≤ 60) : dEq (.lst ds) (.lst []) G R = R (.bl (decide (ds = []))) G := by
  have h1 : pyD (.lst ds) = true := by simpa [pyD] using h
  refine propext (Iff.trans (eq_pure h1 rfl (by simp only [depD]; omega) (by decide)) ?_)
  have : eqD (.lst ds) (.lst []) = decide (ds = []) := by cases ds <;> simp [eqD, eqDs]
  rw [this]
structure WyI (pr : List Rw) (L Dn : List (List Nat)) (m : Nat) : Prop where
  inL : ∀ l ∈ L, ∃ n, Wy pr l n
  inD : ∀ l ∈ Dn, Mx pr l
  all : ∀ l, Mx pr l → l ∈ Dn ∨ ∃ p ∈ L, p <+: l
  mes : (L.map fun l => 3 ^ (pr.length - l.getLast?.getD 0)).sum ≤ m
def sp__law_ways : DSp := fun ds G R => ∃ pr : List Rw, ds = [.tup (pr.map Rw.d)] ∧ PrOk pr ∧ 0 < pr.length ∧ pr.length ≤ 9 ∧ ∀ W : List (List Nat), (∀ l, l ∈ W ↔ Mx pr l) → W.length ≤ 20000 → R (.lst (W.map wayD)) G
local macro_rules | `(tactic| walk_at "x") => `(tactic| fail)
theorem ok__law_ways {P : Program} {w : World} {K : PySem.W.Frag} {mg : Str → Option Value} {base : Heap} {a : Ad} (T : TxB w K mg base a) : FnD P w K mg base 1 a.f__law_ways a.fd__law_ways ["program"] sp__law_ways := by
  refine fun_okD T.F__law_ways sc__law_ways (fun ds G R h => ?_) (fun cdv A outer s H hr => ⟨_, (qss_cons (qs_set (i := 1) sc__law_ways.nd rfl (.inl rfl) (qe_lst true (qa_cons (qe_tup (qa_cons qe_int qa_nil)) qa_nil)))
      (qss_cons (qs_set (i := 2) sc__law_ways.nd rfl (.inl rfl) (qe_lst true qa_nil))
      (qss_cons (qs_while PassesOwn.never (qt_cmp (od_ne hr.units) (qv 1) (qe_lst false qa_nil) (nomark _))
      (qss_cons (qs_set (i := 3) sc__law_ways.nd rfl (.inl rfl) (qe_m0 PySem.F.plainAttrs_list PySem.F.slot_list_pop PySem.F.type_list_pop md_pop (qv 1)))
      (qss_cons (qs_set (i := 4) sc__law_ways.nd rfl (.inl rfl) (qe_ix xd_ix (qe_ix xd_ix (qv 0) (qe_ix xd_ix (qv 3) (qe_un od_neg qe_int) (fun _ _ => rfl)) (fun _ _ => rfl)) qe_int (fun _ _ => rfl)))
      (qss_cons (qs_setLc false (i := 5) rfl sc__law_ways.nd rfl rfl (sw_true rfl rfl rfl (by decide +kernel)) (qi_seq (qe_slice false (qv 4) (qo_some qe_int) qo_none)) (blkOk_by (own := [("number", 6)]) (N := N__law_ways) (sc := defScope s__law_ways) (by decide +kernel)) (fun _ _ _ _ _ => (pg_name (i := 6) sc__law_ways.nd rfl (.inl rfl))) (tg_name (i := 6) (by decide)) (fun _ _ _ _ _ => (qts_one (qt_val (qe_callB cd_isiX rfl T.n_isinstance (by decide +kernel) (qa_cons (qv 6) (qa_cons (qe_ty (n := "int") rfl T.n_int (by decide +kernel)) qa_nil)))))) (fun _ _ _ _ _ => (qv 6)))
      (qss_cons (qs_if (qt_cmp (od_eq hr.units) (qv 5) (qe_lst false qa_nil) (nomark _))
      (qss_one (qs_expr (qe_m PySem.F.plainAttrs_list PySem.F.slot_list_append PySem.F.type_list_append md_append (qv 2) (qa_cons (qv 3) qa_nil))))
      qss_nil)
      (qss_one (qs_for PassesOwn.never rfl (qi_seq (qv 5)) (qg_of (pg_name (i := 6) sc__law_ways.nd rfl (.inl rfl)) (tg_name (i := 6) (ws := [6]) (by decide)))
      (qss_one (qs_expr (qe_m PySem.F.plainAttrs_list PySem.F.slot_list_append PySem.F.type_list_append md_append (qv 1) (qa_cons (qe_op (od_add false) (qv 3) (qe_tup (qa_cons (qv 6) qa_nil))) qa_nil)))))))))))
      (qss_one (qs_ret (qv 2)))))), fun ds G R h => ?_⟩)
  · obtain ⟨pr, rfl, _⟩ := h; rfl
  · obtain ⟨pr, rfl, ok, h0, h9, h⟩ := h
    walk_at "go"
    rename_i p np q nq
    have hp : G p = none := np
    have hq : G q = none := fresh_none nq
    have hpq : p ≠ q := fresh_ne nq
    have hz : (G p = none) := np
    refine ⟨_, wh_go (fun m σ' G' => ∃ (L Dn : List (List Nat)) (x3 x4 x5 x6 : Option D), σ' = [some (.tup (pr.map Rw.d)), some (.ref p), some (.ref q), x3, x4, x5, x6] ∧ Sub G G' ∧ G' p = some (.lst (L.map wayD)) ∧ G' q = some (.lst (Dn.map wayD)) ∧ m + Dn.length ≤ 20000 ∧ WyI pr L Dn m) ?turn 19999 _ _ ⟨[[0]], [], none, none, none, none, rfl, ?i1, ?i2, ?i3, by decide, ?i4⟩⟩
    case i1 => exact Sub.put (Sub.put (Sub.refl G) hp) hq
    case i2 => rw [gup_ne hpq, gup_same]; rfl
    case i3 => exact gup_same
    case i4 =>
      refine ⟨fun l hl => ?_, fun l hl => (by cases hl), fun l hl => .inr ⟨[0], List.mem_singleton.mpr rfl, hl.zero⟩, ?_⟩
      · rw [List.mem_singleton.mp hl]; exact ⟨0, .one⟩
      · have : 3 ^ pr.length ≤ 3 ^ 9 := Nat.pow_le_pow_right (by decide) h9
        simp only [List.map_cons, List.map_nil, List.sum_cons, List.sum_nil, List.getLast?_singleton, Option.getD_some, Nat.sub_zero]
        omega
    case turn =>
      rintro m σ' G1 ⟨L, Dn, x3, x4, x5, x6, rfl, hS, ep, eq_, hmb, I⟩ N hN
      walk_at "go"
      show dEqW not (.ref p) (.lst []) G1 _
      rw [eqW_rl ep]
      obtain ⟨py1, py2⟩ := ways_py L
      show dNe (.lst (L.map wayD)) (.lst []) G1 _
      rw [ne_empty py1 (by omega)]
      rcases List.eq_nil_or_concat L with rfl | ⟨L, l, rfl⟩
      · simp only [List.map_nil, ne_eq, not_true_eq_false, decide_false]
        have hW : ∀ l, l ∈ Dn ↔ Mx pr l := fun l => ⟨I.inD l, fun hl => (I.all l hl).resolve_right fun ⟨p, hp, _⟩ => by cases hp⟩
        walk_at "w"
        exact ret_lst eq_ hS hq (h Dn hW (by omega))
      · rw [List.concat_eq_append] at ep I ⊢
        have hne : decide ((L ++ [l]).map wayD ≠ []) = true := by simp
        rw [hne]
        obtain ⟨n, hl⟩ := I.inL l (by simp)
        obtain ⟨hn, hll, hlk⟩ := hl.lt ok.fwd h0
        obtain ⟨l0, el⟩ := hl.last
        obtain ⟨r, hr⟩ : ∃ r, pr[n]? = some r := ⟨pr[n], List.getElem?_eq_getElem hn⟩
        have hm3 : (L.map fun l => 3 ^ (pr.length - l.getLast?.getD 0)).sum + 3 ^ (pr.length - n) ≤ m := by
          have := I.mes
          rw [List.map_append, List.sum_append, List.map_singleton, List.sum_singleton, el, List.getLast?_append] at this
          simpa using this
        have h3 : 1 ≤ 3 ^ (pr.length - n) := Nat.one_le_pow _ _ (by decide)
        obtain ⟨k, rfl⟩ : ∃ k, m = k + 1 := ⟨m - 1, by omega⟩
        walk_at "go"
        refine ⟨mty_at ep, ?_⟩
        rw [List.map_append, List.map_cons, List.map_nil] at ep
        refine pop_go ep ?_
        walk_at "go"
        rw [el, atI_last]
        walk_at "go"
        rw [atI_nat (j := n) (v := r.d) (by rw [List.getElem?_map, hr]; rfl)]
        rw [show r.d = .tup [.tup (r.os.map Ord.d), r.nx.d] from rfl]
        walk_at "go"
        rw [← el]
        have ep1 : gup G1 p (.lst (L.map wayD)) p = some (.lst (L.map wayD)) := gup_same
        have eq1 : gup G1 p (.lst (L.map wayD)) q = some (.lst (Dn.map wayD)) := by rw [gup_ne hpq.symm]; exact eq_
        have hS1 : Sub G (gup G1 p (.lst (L.map wayD))) := Sub.put hS hp
        generalize gup G1 p (.lst (L.map wayD)) = G2 at ep1 eq1 hS1 ⊢
        show dSeq (dAsg (dLc false (dIter (dSlice false (dVar 4) (dPart (dC (D.int 1))) dNoPart)) (dName 6) (dB (dCallB dIsiX (dCons (dVar 6) (dCons (dC (D.ty "int")) dNil)))) (dVar 6) [6]) (dName 5)) (dSeq (dIfS (dB (dOp dEq (dVar 5) (dLst false dNil))) (dDrop (dM "list" dAppend (dVar 2) (dCons (dVar 3) dNil))) dNext) (dFor (dIter (dVar 5)) (dName 6) (dDrop (dM "list" dAppend (dVar 1) (dCons (dOp (dAdd false) (dVar 3) (dTup (dCons (dVar 6) dNil))) dNil))))) _ [some (.tup (pr.map Rw.d)), some (.ref p), some (.ref q), some (wayD l), some r.nx.d, x5, x6] G2
        refine seq_cut (fun σ' G' => σ' = [some (.tup (pr.map Rw.d)), some (.ref p), some (.ref q), some (wayD l), some r.nx.d, some (.lst (r.nx.nexts.map fun n => .int (n : Nat))), x6] ∧ G' = G2) ?_ (fun N1 hN1 => ?_)
        rotate_left
        · cases hx : r.nx with
          | fin =>
            rw [hx] at hN1
            unfold Nx.d at hN1 ⊢
            walk_at "go"
            exact hN1 _ _ ⟨rfl, rfl⟩
          | go j =>
            rw [hx] at hN1
            unfold Nx.d at hN1 ⊢
            walk_at "go"
            exact hN1 _ _ ⟨rfl, rfl⟩
          | test pl i j =>
            rw [hx] at hN1
            cases pl with
            | reg z => unfold Nx.d Plc.d at hN1 ⊢; walk_at "go"; exact hN1 _ _ ⟨rfl, rfl⟩
            | hid z => unfold Nx.d Plc.d at hN1 ⊢; walk_at "go"; exact hN1 _ _ ⟨rfl, rfl⟩
        rintro σ G2 ⟨rfl, rfl⟩
        have hn2 := nexts2 r.nx
        by_cases hnil : r.nx.nexts = []
        · rw [hnil]
          walk_at "go"
          rw [eq_emptyL rfl (by decide)]
          walk_at "go"
          refine ⟨mty_at eq1, ?_⟩
          rw [atL_at eq1]
          refine ⟨by rw [sizeLine_eq, List.length_map]; omega, ?_⟩
          walk_at "go"
          refine hN k _ (gup G2 q (.lst (Dn.map wayD ++ [wayD l]))) rfl ⟨L, Dn ++ [l], _, _, _, _, rfl, Sub.put hS1 hq, by rw [gup_ne hpq]; exact ep1, by rw [gup_same, List.map_append]; rfl, by rw [List.length_append]; simp only [List.length_cons, List.length_nil]; omega, ?_⟩
          refine ⟨fun y hy => I.inL y (List.mem_append_left _ hy), fun y hy => ?_, fun y hy => ?_, by omega⟩
          · rcases List.mem_append.mp hy with hy | hy
            · exact I.inD y hy
            · rw [List.mem_singleton.mp hy]; exact ⟨n, r, hl, hr, hnil⟩
          · rcases I.all y hy with h1 | ⟨u, hu, hpre⟩
            · exact .inl (List.mem_append_left _ h1)
            · rcases List.mem_append.mp hu with hu | hu
              · exact .inr ⟨u, hu, hpre⟩
              · rw [List.mem_singleton.mp hu] at hpre
                obtain ⟨n', r', hy', _, _⟩ := id hy
                rcases hy'.pre hl hpre with e | ⟨r2, m2, a1, a2, _⟩
                · exact .inl (List.mem_append_right _ (by rw [e]; exact List.mem_singleton.mpr rfl))
                · rw [hr] at a1; cases a1; rw [hnil] at a2; cases a2
        · have hne2 : decide ((r.nx.nexts.map fun n => D.int (n : Nat)) = []) = false := by simpa using hnil
          walk_at "go"
          rw [eq_emptyL (way_py _).1 (by have := (way_py r.nx.nexts).2; omega), hne2]
          walk_at "go"
          refine for_lst (fun n : Nat => D.int (n : Nat)) r.nx.nexts (fun j σ' G' => ∃ x6, σ' = [some (.tup (pr.map Rw.d)), some (.ref p), some (.ref q), some (wayD l), some r.nx.d, some (.lst (r.nx.nexts.map fun n => .int (n : Nat))), x6] ∧ Sub G G' ∧ G' p = some (.lst ((L ++ (r.nx.nexts.take j).map fun m => l ++ [m]).map wayD)) ∧ G' q = some (.lst (Dn.map wayD))) ?turn ?fin _ _ ⟨_, rfl, hS1, by simpa using ep1, eq1⟩
          case turn =>
            rintro j m σ' G3 hm ⟨x6, rfl, hS3, ep3, eq3⟩ N2 hN2
            walk_at "go"
            have hjl := (List.getElem?_eq_some_iff.mp hm).1
            have hmL : L.length ≤ 20000 := by
              have : ∀ (xs : List (List Nat)), xs.length ≤ (xs.map fun l => 3 ^ (pr.length - l.getLast?.getD 0)).sum := fun xs => by
                induction xs with
                | nil => simp
                | cons a xs ih =>
                  have : 1 ≤ 3 ^ (pr.length - a.getLast?.getD 0) := Nat.one_le_pow _ _ (by decide)
                  simp only [List.length_cons, List.map_cons, List.sum_cons]
                  omega
              have := this L
              omega
            refine ⟨mty_at ep3, small_line (by decide), small_line (by rw [List.length_map]; omega), ?_⟩
            rw [atL_at ep3]
            refine ⟨by rw [sizeLine_eq, List.length_map, List.length_append, List.length_map, List.length_take]; omega, ?_⟩
            refine hN2 _ _ ⟨_, rfl, Sub.put hS3 hp, ?_, by rw [gup_ne hpq.symm]; exact eq3⟩
            rw [gup_same, List.take_succ, hm]
            simp
          case fin =>
            rintro σ' G3 ⟨x6, rfl, hS3, ep3, eq3⟩
            rw [List.take_length] at ep3
            refine hN k _ _ rfl ⟨L ++ r.nx.nexts.map fun m => l ++ [m], Dn, _, _, _, _, rfl, hS3, ep3, eq3, by omega, ?_⟩
            have hf := ok.fwd n r hr
            refine ⟨fun y hy => ?_, I.inD, fun y hy => ?_, ?_⟩
            · rcases List.mem_append.mp hy with hy | hy
              · exact I.inL y (List.mem_append_left _ hy)
              · obtain ⟨m, hm, rfl⟩ := List.mem_map.mp hy
                exact ⟨m, .snoc hl hr hm⟩
            · rcases I.all y hy with h1 | ⟨u, hu, hpre⟩
              · exact .inl h1
              · rcases List.mem_append.mp hu with hu | hu
                · exact .inr ⟨u, List.mem_append_left _ hu, hpre⟩
                · rw [List.mem_singleton.mp hu] at hpre
                  obtain ⟨n', r', hy', hr', hz'⟩ := id hy
                  rcases hy'.pre hl hpre with e | ⟨r2, m2, a1, a2, a3⟩
                  · rw [← e] at hy'
                    have := hl.last_eq hy'
                    subst this
                    rw [hr] at hr'; cases hr'
                    exact absurd hz' hnil
                  · rw [hr] at a1; cases a1
                    exact .inr ⟨l ++ [m2], List.mem_append_right _ (List.mem_map.mpr ⟨m2, a2, rfl⟩), a3⟩
            · obtain ⟨t, ht⟩ : ∃ t, pr.length - n = t + 1 := ⟨pr.length - n - 1, by omega⟩
              have hb : ∀ m ∈ r.nx.nexts, 3 ^ (pr.length - m) ≤ 3 ^ t := fun m hm => Nat.pow_le_pow_right (by decide) (by have := (hf m hm).1; omega)
              have hs : ∀ (xs : List Nat), (∀ m ∈ xs, 3 ^ (pr.length - m) ≤ 3 ^ t) → ((xs.map fun m => l ++ [m]).map fun l => 3 ^ (pr.length - l.getLast?.getD 0)).sum ≤ xs.length * 3 ^ t := fun xs => by
                induction xs with
                | nil => intro _; simp
                | cons a xs ih =>
                  intro h
                  have h1 := ih fun m hm => h m (List.mem_cons_of_mem _ hm)
                  have h2 := h a List.mem_cons_self
                  simp only [List.map_cons, List.sum_cons, List.length_cons, List.getLast?_append, List.getLast?_singleton, Option.some_or, Option.getD_some, Nat.add_mul, Nat.one_mul] at h1 ⊢
                  omega
              have h4 := hs r.nx.nexts hb
              have h5 : r.nx.nexts.length * 3 ^ t ≤ 2 * 3 ^ t := Nat.mul_le_mul_right _ hn2
              have h6 : 1 ≤ 3 ^ t := Nat.one_le_pow _ _ (by decide)
              rw [ht, Nat.pow_succ] at hm3
              rw [List.map_append, List.sum_append]
              omega
theorem go_ways {pr : List Rw} {G : Gp} {R : DK} (ok : PrOk pr) (h0 : 0 < pr.length) (h9 : pr.length ≤ 9) (k : ∀ W : List (List Nat), (∀ l, l ∈ W ↔ Mx pr l) → W.length ≤ 20000 → R (.lst (W.map wayD)) G) : sp__law_ways [.tup (pr.map Rw.d)] G R := ⟨pr, rfl, ok, h0, h9, k⟩
end K64


set_option Elab.async false
set_option linter.all false
set_option maxRecDepth 100000
set_option maxHeartbeats 4000000
set_option autoImplicit false
namespace K64
open PySem PySem.Spec PyProof.Rows L2 DL
local macro_rules | `(tactic| walk_at "d") => `(tactic| dsimp only [dSeq, dNext, dIfS, dRet, dRetN, dAsg, dName, dVar, dC, dOp, dUn, dChain, dB, dAnd, dOr, dNot, dAndV, dOrV, dNotV, dIf, dNil, dCons, dTup, dLst, newL, dCallB, dCall, dCallK, dDrop, dAug, dAugS, dSub, dM, dM0, dSlice, dNoPart, dPart, dLc, dYes, dFor, dIter, dRng1, dEnum, dZipM, srcD, dStar, dInK, dIxK, dLenSet, dRev,
  startD, wipeD, setAll, dNames, List.map_cons, List.map_nil, List.length_cons, List.length_nil, List.replicate, List.cons_append, List.nil_append, List.append_nil, List.getElem?_cons_zero, List.getElem?_cons_succ, List.set_cons_zero, List.set_cons_succ, List.map, Nat.zero_add, Nat.reduceAdd, Nat.reduceSub, Nat.sub_self, Nat.succ_sub_succ_eq_sub])
local macro_rules | `(tactic| walk_at "o") => `(tactic| simp only [dAdd_ii, dAdd_ss, dAdd_tt, dAdd_ll, dMinus_ii, dMul_ii, dMod_ii, dFdiv_ii, dPow_ii, dShl_ii, dNeg_i, dIadd_ii, dLt_ii, dLe_ii, dGt_ii, dGe_ii, dEq_ii, dNe_ii, dEq_ss, dNe_ss, dEq_bb, dNe_bb, dIs_n, dIsNot_n, dMax2_ii, dMin2_ii, dTuple_t, dTuple_l, dList_t, dList_l, dIx_t, dIx_l, dIx_s, dSl_t, dSl_l, dSl_s, newL_f, len_tup, len_lst])
local macro_rules | `(tactic| walk_at "w") => `(tactic| dsimp only [x_var, x_c, x_op, x_un, x_b, x_and, x_or, x_not, x_chain, x_andV, x_orV, x_notV, x_if, x_nil, x_cons, x_tup, x_lst0, x_lst1, x_callB, x_call, x_callK, x_next, x_seq, x_break, x_cont, x_drop, x_ret, x_ifS, x_asg, x_name, x_names, x_sub, x_aug, x_augS, x_for, x_lc0, x_lc1, x_yes, x_noPart, x_part, x_slice, x_iter, it_t, it_l, it_n, it_s, it_r, x_rng1, x_enum, x_rev, x_m, x_m0, x_mX, x_zip, x_star_t, x_star_l, x_lenSet, x_forgo0, x_lcgo0, x_while, x_par, x_sortK,
  br_t, br_f, isB_bl, isI_int, isN_some, slo_some, atL_lst, ix_t, ix_l, ix_n,
  dAdd_ii, dAdd_ss, dAdd_tt, dAdd_ll, dMinus_ii, dMul_ii, dMod_ii, dFdiv_ii, dPow_ii, dShl_ii, dNeg_i, dIadd_ii, dLt_ii, dLe_ii, dGt_ii, dGe_ii, ltE_ii, ltE_ss, srcD, isi_i, isi_s, isi_b, isi_n, isi_t, isi_nt, isi_l, isi2_i, isi2_s, isi2_b, isi2_n, isi2_t, isi2_nt, isi2_l, inon_n, inon_i, inon_s, inon_b, inon_t, inon_l, inon_r, dEq_ii, dNe_ii, dEq_ss, dNe_ss, dEq_bb, dNe_bb, dIs_n, dIsNot_n, dMax2_ii, dMin2_ii, dTuple_t, dTuple_l, dList_t, dList_l, dSl_t, dSl_l, dSl_s, newL_f, newL_t, app_r, int_b, int_i, strI_i, strX_i, strX_s,
  startD, wipeD, setAll, permL, List.filterMap, List.map_cons, List.map_nil, List.length_cons, List.length_nil, List.replicate, List.cons_append, List.nil_append, List.append_nil, List.getElem?_cons_zero, List.getElem?_cons_succ, List.set_cons_zero, List.set_cons_succ, List.map, Nat.zero_add, Nat.reduceAdd, Nat.reduceSub, Nat.sub_self, Nat.succ_sub_succ_eq_sub])
local macro_rules | `(tactic| walk_at "v") => `(tactic| simp only [ofString_inj, String.reduceEq, at_0, at_1, at_2, at_3, at_4, at_5, isN_some, isBB_bl, isB_bl, br_t, br_f, br_not, br_and, br_or, br_dec, ix_r, len_tup, len_lst, len_nt, ltE_key, gup_gup, gup_same, starD_one, cut1, cut2, kt1, kt2, kt3, kt4, kt5, kt6, isTy, String.reduceBEq, Bool.or_false, Bool.false_or, Bool.true_or, Bool.or_true, Bool.and_false, Bool.false_and, Bool.true_and, Bool.and_true, Bool.not_true, Bool.not_false, decide_true, decide_false, eq_self_iff_true, Bool.false_eq_true, Int.reduceAdd, Int.add_zero, if_true, if_false, true_and, and_true])
local macro_rules | `(tactic| walk_at "side") => `(tactic| first | with_reducible assumption | omega | exact mty_up | exact True.intro | (simp only [List.mem_cons, ofString_inj, String.reduceEq, true_or, or_true, List.length_map]; done) | with_reducible exact (rfl : (_ : Nat) = _) | exact (rfl : (_ : Option String) = _) | (refine small_line ?_; omega) | (walk_at "ll"; first | omega | (refine small_line ?_; omega) | fail) | (exact log_small (by omega)) | fail)
local macro_rules | `(tactic| walk_at "x") => `(tactic| fail)
local macro_rules | `(tactic| walk_at "go") => `(tactic| repeat' (first | dsimp only [x_var, x_c, x_op, x_un, x_b, x_and, x_or, x_not, x_chain, x_andV, x_orV, x_notV, x_if, x_nil, x_cons, x_tup, x_lst0, x_lst1, x_callB, x_call, x_callK, x_next, x_seq, x_break, x_cont, x_drop, x_ret, x_ifS, x_asg, x_name, x_names, x_sub, x_aug, x_augS, x_for, x_lc0, x_lc1, x_yes, x_noPart, x_part, x_slice, x_iter, it_t, it_l, it_n, it_s, it_r, x_rng1, x_enum, x_rev, x_m, x_m0, x_mX, x_zip, x_star_t, x_star_l, x_lenSet, x_forgo0, x_lcgo0, x_while, x_par, x_sortK, br_t, br_f, isB_bl, isI_int, isN_some, slo_some, atL_lst, ix_t, ix_l, ix_n, dAdd_ii, dAdd_ss, dAdd_tt, dAdd_ll, dMinus_ii, dMul_ii, dMod_ii, dFdiv_ii, dPow_ii, dShl_ii, dNeg_i, dIadd_ii, dLt_ii, dLe_ii, dGt_ii, dGe_ii, ltE_ii, ltE_ss, srcD, isi_i, isi_s, isi_b, isi_n, isi_t, isi_nt, isi_l, isi2_i, isi2_s, isi2_b, isi2_n, isi2_t, isi2_nt, isi2_l, inon_n, inon_i, inon_s, inon_b, inon_t, inon_l, inon_r, dEq_ii, dNe_ii, dEq_ss, dNe_ss, dEq_bb, dNe_bb, dIs_n, dIsNot_n, dMax2_ii, dMin2_ii, dTuple_t, dTuple_l, dList_t, dList_l, dSl_t, dSl_l, dSl_s, newL_f, newL_t, app_r, int_b, int_i, strI_i, strX_i, strX_s, startD, wipeD, setAll, permL, List.filterMap, List.map_cons, List.map_nil, List.length_cons, List.length_nil, List.replicate, List.cons_append, List.nil_append, List.append_nil, List.getElem?_cons_zero, List.getElem?_cons_succ, List.set_cons_zero, List.set_cons_succ, List.map, Nat.zero_add, Nat.reduceAdd, Nat.reduceSub, Nat.sub_self, Nat.succ_sub_succ_eq_sub] | simp only [ofString_inj, String.reduceEq, at_0, at_1, at_2, at_3, at_4, at_5, isN_some, isBB_bl, isB_bl, br_t, br_f, br_not, br_and, br_or, br_dec, ix_r, len_tup, len_lst, len_nt, ltE_key, gup_gup, gup_same, starD_one, cut1, cut2, kt1, kt2, kt3, kt4, kt5, kt6, isTy, String.reduceBEq, Bool.or_false, Bool.false_or, Bool.true_or, Bool.or_true, Bool.and_false, Bool.false_and, Bool.true_and, Bool.and_true, Bool.not_true, Bool.not_false, decide_true, decide_false, eq_self_iff_true, Bool.false_eq_true, Int.reduceAdd, Int.add_zero, if_true, if_false, true_and, and_true] | walk_at "x" | with_reducible refine kont_go ?_ | with_reducible refine rt_sub (by assumption) ?_ | with_reducible refine rt_lst (by assumption) ?_ | with_reducible refine rt_drop (by assumption) ?_ | with_reducible refine rt_keep (by assumption) (by assumption) ?_ | with_reducible refine rt_same ?_ | (refine fun (p : Addr) (_ : _ = none) => ?_) | refine join_gor gup_same rfl (by walk_at "side") ?_ | with_reducible refine lc_cons ?_ | with_reducible refine for_cons ?_ | refine join_go rfl (by walk_at "side") ?_ | refine And.intro (by first | with_reducible assumption | omega | exact mty_up | exact True.intro | (simp only [List.mem_cons, ofString_inj, String.reduceEq, true_or, or_true, List.length_map]; done) | with_reducible exact (rfl : (_ : Nat) = _) | exact (rfl : (_ : Option String) = _) | (refine small_line ?_; omega) | (walk_at "ll"; first | omega | (refine small_line ?_; omega) | fail) | (exact log_small (by omega)) | fail) ?_ | fail))
local macro_rules | `(tactic| walk_at "ll") => `(tactic| simp only [List.length_map, List.length_append, List.length_cons, List.length_nil, List.map_cons, List.map_nil, List.sum_cons, List.sum_nil, len_app, rng_length, ll_0, ll_1, ll_2, ll_3, ll_4, ll_5, ll_6, ll_7, ll_8, ll_9, ll_10, ll_11, ll_12, ll_13, ll_14, ll_15, ll_16, ll_17, ll_18, ll_19, ll_20, ll_21, ll_22, ll_23, ll_24, ll_25, ll_26, ll_27])
/-! ### what is due: the first way cut where it shows -/
inductive Pa (pr : List Rw) : Nat → List Nat → Prop
  | fin {n : Nat} {r : Rw} : pr[n]? = some r → r.nx.nexts = [] → Pa pr n [n]
  | step {n m : Nat} {r : Rw} {l : List Nat} : pr[n]? = some r → m ∈ r.nx.nexts → Pa pr m l → Pa pr n (n :: l)
def cutW (pr : List Rw) : Bool → List Nat → Option (List Nat)
  | _, [] => none
  | s, n :: l => match pr[n]? with | some r => if (s && r.mt) = true then some [n] else (cutW pr (s || r.seen) l).map (n :: ·) | none => none
section
variable {pr : List Rw}
theorem Pa.head {n : Nat} {l : List Nat} (h : Pa pr n l) : ∃ t, l = n :: t := by
  cases h with
  | fin _ _ => exact ⟨[], rfl⟩
  | step _ _ _ => exact ⟨_, rfl⟩
theorem Wy.pa {l : List Nat} {n : Nat} (h : Wy pr l n) : ∀ t, Pa pr n (n :: t) → Pa pr 0 (l ++ t) := by
  induction h with
  | one => exact fun t ht => ht
  | snoc h1 h2 h3 ih =>
    intro t ht
    rw [List.append_assoc]
    exact ih _ (.step h2 h3 ht)
theorem Pa.wy {n : Nat} {p : List Nat} (h : Pa pr n p) : ∀ t l, p = n :: t → Wy pr l n → Mx pr (l ++ t) := by
  induction h with
  | @fin n r h1 h2 =>
    intro t l e hl
    obtain rfl : t = [] := by injection e with _ e; exact e.symm
    rw [List.append_nil]
    exact ⟨n, r, hl, h1, h2⟩
  | @step n m r q h1 h2 h3 ih =>
    intro t l e hl
    obtain rfl : t = q := by injection e with _ e; exact e.symm
    obtain ⟨t2, e2⟩ := h3.head
    have := ih t2 (l ++ [m]) e2 (.snoc hl h1 h2)
    rw [e2]
    rwa [List.append_assoc] at this
theorem mx_iff {l : List Nat} : Mx pr l ↔ Pa pr 0 l := by
  constructor
  · rintro ⟨n, r, h1, h2, h3⟩
    have := h1.pa [] (.fin h2 h3)
    rwa [List.append_nil] at this
  · intro h
    obtain ⟨t, rfl⟩ := h.head
    exact h.wy t [0] rfl .one
theorem pa_exists (hf : Fwd pr) : ∀ (k n : Nat), pr.length - n ≤ k → n < pr.length → ∃ l, Pa pr n l
  | 0, n, hk, hn => absurd hn (by omega)
  | k + 1, n, hk, hn => by
    obtain ⟨r, hr⟩ : ∃ r, pr[n]? = some r := ⟨pr[n], List.getElem?_eq_getElem hn⟩
    cases e : r.nx.nexts with
    | nil => exact ⟨_, .fin hr e⟩
    | cons m ms =>
      have hm : m ∈ r.nx.nexts := by rw [e]; exact List.mem_cons_self
      have := hf n r hr m hm
      obtain ⟨l, hl⟩ := pa_exists hf k m (by omega) this.2
      exact ⟨_, .step hr hm hl⟩
theorem pa_len (hf : Fwd pr) {n : Nat} {l : List Nat} (hn : n < pr.length) (h : Pa pr n l) : l.length + n ≤ pr.length ∧ ∀ k ∈ l, k < pr.length := by
  induction h with
  | @fin n r h1 h2 =>
    refine ⟨by simp only [List.length_cons, List.length_nil]; omega, fun k hk => ?_⟩
    rw [List.mem_singleton.mp hk]; exact hn
  | @step n m r q h1 h2 h3 ih =>
    have := hf n r h1 m h2
    obtain ⟨a1, a2⟩ := ih this.2
    refine ⟨by rw [List.length_cons]; omega, fun k hk => ?_⟩
    rcases List.mem_cons.mp hk with rfl | hk
    · exact hn
    · exact a2 k hk
theorem cut_sh {n : Nat} {l : List Nat} (h : Pa pr n l) : ∀ {s : Bool} {c : List Nat}, cutW pr s l = some c → Sh pr n s ∧ ∃ t, c = n :: t := by
  induction h with
  | @fin n r h1 h2 =>
    intro s c hc
    simp only [cutW, h1] at hc
    split at hc
    · rename_i hb
      rw [Bool.and_eq_true] at hb
      cases hc
      rw [hb.1]
      exact ⟨.hit h1 hb.2, [], rfl⟩
    · cases hc
  | @step n m r q h1 h2 h3 ih =>
    intro s c hc
    simp only [cutW, h1] at hc
    split at hc
    · rename_i hb
      rw [Bool.and_eq_true] at hb
      cases hc
      rw [hb.1]
      exact ⟨.hit h1 hb.2, [], rfl⟩
    · obtain ⟨c', hc', rfl⟩ := Option.map_eq_some_iff.mp hc
      exact ⟨.step h1 h2 (ih hc').1, c', rfl⟩
theorem uw_head {n : Nat} {s : Bool} {u : List Nat} (h : Uw pr n s u) : ∃ t, u = n :: t := by
  cases h with
  | hit _ _ => exact ⟨[], rfl⟩
  | step _ _ _ _ _ _ => exact ⟨_, rfl⟩
theorem uw_cut (hf : Fwd pr) {n : Nat} {s : Bool} {u : List Nat} (h : Uw pr n s u) : ∃ l, Pa pr n l ∧ cutW pr s l = some u := by
  induction h with
  | @hit n r h1 h2 =>
    have hn := (List.getElem?_eq_some_iff.mp h1).1
    obtain ⟨l, hl⟩ := pa_exists hf _ n (Nat.le_refl _) hn
    obtain ⟨t, rfl⟩ := hl.head
    exact ⟨_, hl, by simp [cutW, h1, h2]⟩
  | @step n m s r l h1 h2 h3 h4 h5 h6 ih =>
    obtain ⟨p, hp, hc⟩ := ih
    exact ⟨n :: p, .step h1 h3 hp, by simp [cutW, h1, h2, hc]⟩
abbrev zI (l : List Nat) : List Int := l.map fun n : Nat => (n : Int)
theorem uw_least {n : Nat} {s : Bool} {u : List Nat} (h : Uw pr n s u) : ∀ {l c : List Nat}, Pa pr n l → cutW pr s l = some c → ltI (zI c) (zI u) = false := by
  induction h with
  | @hit n r h1 h2 =>
    intro l c hl hc
    obtain ⟨t, rfl⟩ := hl.head
    simp [cutW, h1, h2] at hc
    rw [← hc]
    exact ltI_irrefl _
  | @step n m s r u' h1 h2 h3 h4 h5 h6 ih =>
    intro l c hl hc
    cases hl with
    | fin g1 g2 =>
      rw [h1] at g1
      cases g1
      rw [g2] at h3
      cases h3
    | @step _ k _ q g1 g2 g3 =>
      rw [h1] at g1
      cases g1
      simp only [cutW, h1, h2, Bool.false_eq_true, if_false] at hc
      obtain ⟨c', hc', rfl⟩ := Option.map_eq_some_iff.mp hc
      obtain ⟨hS, t, rfl⟩ := cut_sh g3 hc'
      have hle := h5 k g2 hS
      obtain ⟨t2, e2⟩ := uw_head h6
      have key : ltI (zI (k :: t)) (zI u') = false := by
        by_cases e : k = m
        · subst e; exact ih g3 hc'
        · rw [e2]
          simp only [zI, List.map_cons, ltI, Bool.or_eq_false_iff, Bool.and_eq_false_iff, decide_eq_false_iff_not]
          exact ⟨by omega, .inl (by omega)⟩
      simp only [zI, List.map_cons, ltI] at key ⊢
      simp only [Int.lt_irrefl, decide_false, Bool.false_or, decide_true, Bool.true_and]
      exact key
end
def regB (o : Ord) : Bool := match o.dst with | some p => p.isReg | none => false
theorem any_congrL {α : Type} {f g : α → Bool} : ∀ {l : List α}, (∀ x ∈ l, f x = g x) → l.any f = l.any g
  | [], _ => rfl
  | x :: l, h => by rw [List.any_cons, List.any_cons, h x List.mem_cons_self, any_congrL fun y hy => h y (List.mem_cons_of_mem _ hy)]
def sp__law_due : DSp := fun ds G R => ∃ (M : Mach) (pr : List Rw), ds = [.tup (pr.map Rw.d)] ∧ M.ok ∧ (∀ r ∈ pr, ∀ o ∈ r.os, o.ok M) ∧ PrOk pr ∧ 0 < pr.length ∧ pr.length ≤ 9 ∧ ((¬ Sh pr 0 false ∧ R .non G) ∨ ∃ u, Uw pr 0 false u ∧ R (.tup (intsN u)) G)
local macro_rules | `(tactic| walk_at "x") => `(tactic| fail)
theorem ok__law_due {P : Program} {w : World} {K : PySem.W.Frag} {mg : Str → Option Value} {base : Heap} {a : Ad} (T : TxB w K mg base a) : FnD P w K mg base 2 a.f__law_due a.fd__law_due ["program"] sp__law_due := by
  refine fun_okD T.F__law_due sc__law_due (fun ds G R h => ?_) (fun cdv A outer s H hr => ⟨_, (qss_cons (qs_set (i := 1) sc__law_due.nd rfl (.inl rfl) (qe_lst true qa_nil))
      (qss_cons (qs_for PassesOwn.never rfl (qi_seq (qe_call (ok__law_ways T) (hr.mono (by omega)) rfl T.g__law_ways T.F__law_ways.kp T.b__law_ways (qa_cons (qv 0) qa_nil))) (qg_of (pg_name (i := 2) sc__law_due.nd rfl (.inl rfl)) (tg_name (i := 2) (ws := [2]) (by decide)))
      (qss_cons (qs_set (i := 3) sc__law_due.nd rfl (.inl rfl) qe_bl)
      (qss_one (qs_for PassesOwn.never rfl (qi_range1 rfl T.n_range (qa_cons (qe_callB cd_len rfl T.n_len (by decide +kernel) (qa_cons (qv 2) qa_nil)) qa_nil)) (qg_of (pg_name (i := 4) sc__law_due.nd rfl (.inl rfl)) (tg_name (i := 4) (ws := [4]) (by decide)))
      (qss_cons (qs_set (i := 5) sc__law_due.nd rfl (.inl rfl) (qe_ix xd_ix (qe_ix xd_ix (qv 0) (qe_ix xd_ix (qv 2) (qv 4) (fun _ _ => rfl)) (fun _ _ => rfl)) qe_int (fun _ _ => rfl)))
      (qss_cons (qs_if (QW.pt (qw_and (qt_val (qv 3)) (qw_and1 (qt_val (qe_callB (cd_any rfl) rfl T.n_any (by decide +kernel) (qa_cons (qe_lc false rfl sc__law_due.nd (qi_seq (qv 5)) (blkOk_by (own := [("order", 7)]) (N := N__law_due) (sc := defScope s__law_due) (by decide +kernel)) (fun _ _ _ _ _ => (pg_name (i := 7) sc__law_due.nd rfl (.inl rfl))) (tg_name (i := 7) (by decide)) (fun _ _ _ _ _ => qts_nil) (fun _ _ _ _ _ => (qe_cmp (od_inE (room100 hr)) (qe_ix xd_ix (qv 7) qe_int (fun _ _ => rfl)) (qe_lst false (qa_cons qe_str (qa_cons qe_str qa_nil))) rfl))) qa_nil))))))
      (qss_cons (qs_expr (qe_m PySem.F.plainAttrs_list PySem.F.slot_list_append PySem.F.type_list_append md_append (qv 1) (qa_cons (qe_slice false (qv 2) qo_none (qo_some (qe_op (od_add false) (qv 4) qe_int))) qa_nil)))
      (qss_one qs_break))
      qss_nil)
      (qss_cons (qs_setLc false (i := 6) rfl sc__law_due.nd rfl rfl (sw_true rfl rfl rfl (by decide +kernel)) (qi_seq (qv 5)) (blkOk_by (own := [("order", 7)]) (N := N__law_due) (sc := defScope s__law_due) (by decide +kernel)) (fun _ _ _ _ _ => (pg_name (i := 7) sc__law_due.nd rfl (.inl rfl))) (tg_name (i := 7) (by decide)) (fun _ _ _ _ _ => qts_nil) (fun _ _ _ _ _ => (qe_call (ok__law_to T) (hr.mono (by omega)) rfl T.g__law_to T.F__law_to.kp T.b__law_to (qa_cons (qv 7) qa_nil))))
      (qss_one (qs_set (i := 3) sc__law_due.nd rfl (.inl rfl) (qe_or (qv 3) (qe_or (qe_cmp (od_inE (room100 hr)) (qe_tup qa_nil) (qv 6) rfl) (qe_one (qe_callB (cd_any rfl) rfl T.n_any (by decide +kernel) (qa_cons (qe_lc false rfl sc__law_due.nd (qi_seq (qv 6)) (blkOk_by (own := [("to", 8)]) (N := N__law_due) (sc := defScope s__law_due) (by decide +kernel)) (fun _ _ _ _ _ => (pg_name (i := 8) sc__law_due.nd rfl (.inl rfl))) (tg_name (i := 8) (by decide)) (fun _ _ _ _ _ => qts_nil) (fun _ _ _ _ _ => (qe_cmp (od_eq hr.units) (qe_slice false (qv 8) qo_none (qo_some qe_int)) (qe_tup (qa_cons qe_str qa_nil)) (nomark _)))) qa_nil))))))))))))))
      (qss_cons (qs_if (qt_cmp (od_eq hr.units) (qv 1) (qe_lst false qa_nil) (nomark _))
      (qss_one (qs_ret qe_non))
      qss_nil)
      (qss_one (qs_ret (qe_callB (cd_minT hr rfl) rfl T.n_min (by decide +kernel) (qa_cons (qv 1) qa_nil))))))), fun ds G R h => ?_⟩)
  · obtain ⟨M, pr, rfl, _⟩ := h; rfl
  · obtain ⟨M, pr, rfl, hM, hom, ok, h0, h9, h⟩ := h
    refine seq_cut (fun σ' G' => ∃ p, σ' = [some (.tup (pr.map Rw.d)), some (.ref p), none, none, none, none, none, none, none] ∧ G p = none ∧ G' = gup G p (.lst [])) ?_ (fun N1 hN1 => ?_)
    rotate_left
    · walk_at "go"
      rename_i p np
      exact hN1 _ _ ⟨p, rfl, np, rfl⟩
    rintro σ G1 ⟨p, rfl, np, rfl⟩
    refine seq_cut (fun σ' G' => ∃ (W : List (List Nat)) (x2 x3 x4 x5 x6 : Option D), σ' = [some (.tup (pr.map Rw.d)), some (.ref p), x2, x3, x4, x5, x6, none, none] ∧ (∀ l, l ∈ W ↔ Mx pr l) ∧ Sub G G' ∧ G' p = some (.lst ((W.filterMap (cutW pr false)).map wayD)) ∧ W.length ≤ 20000) ?_ (fun N1 hN1 => ?_)
    rotate_left
    · walk_at "go"
      refine go_ways ok h0 h9 fun W hW hl => ?_
      walk_at "go"
      refine for_lst wayD W (fun k σ' G' => ∃ (x2 x3 x4 x5 x6 : Option D), σ' = [some (.tup (pr.map Rw.d)), some (.ref p), x2, x3, x4, x5, x6, none, none] ∧ Sub G G' ∧ G' p = some (.lst (((W.take k).filterMap (cutW pr false)).map wayD))) ?turn ?fin _ _ ⟨none, none, none, none, none, rfl, Sub.new np, gup_same⟩
      case fin =>
        rintro σ' G' ⟨x2, x3, x4, x5, x6, rfl, hS, ep⟩
        rw [List.take_length] at ep
        exact hN1 _ _ ⟨W, _, _, _, _, _, rfl, hW, hS, ep, hl⟩
      case turn =>
        rintro k l σ' G' hk ⟨x2, x3, x4, x5, x6, rfl, hS, ep⟩ N hN
        have hkl := (List.getElem?_eq_some_iff.mp hk).1
        have hpa := mx_iff.mp ((hW l).mp (List.mem_of_getElem? hk))
        have hll := pa_len ok.fwd h0 hpa
        have hte : (W.take (k + 1)).filterMap (cutW pr false) = (W.take k).filterMap (cutW pr false) ++ (cutW pr false l).toList := by
          rw [List.take_succ, hk, List.filterMap_append]
          cases e : cutW pr false l <;> simp [e]
        have hsl : ((W.take k).filterMap (cutW pr false)).length ≤ k := Nat.le_trans (List.length_filterMap_le _ _) (by rw [List.length_take]; omega)
        walk_at "go"
        rw [List.length_map, Int.toNat_natCast]
        refine for_rng l.length (fun j σ' G2 => ∃ (s : Bool) (x4 x5 x6 : Option D), σ' = [some (.tup (pr.map Rw.d)), some (.ref p), some (wayD l), some (.bl s), x4, x5, x6, none, none] ∧ G2 = G' ∧ cutW pr false l = (cutW pr s (l.drop j)).map (l.take j ++ ·)) ?turn2 ?fin2 _ _ ⟨false, _, _, _, rfl, rfl, by simp⟩
        case fin2 =>
          rintro σ' G2 ⟨s, x4, x5, x6, rfl, rfl, hc⟩
          rw [List.drop_length] at hc
          have hc : cutW pr false l = none := hc
          rw [hc] at hte
          refine hN _ _ ⟨_, _, _, _, _, rfl, hS, ?_⟩
          rw [hte]
          simpa using ep
        case turn2 =>
          rintro j σ' G2 hj ⟨s, x4, x5, x6, rfl, rfl, hc⟩ N2 hN2
          obtain ⟨n, hn⟩ : ∃ n, l[j]? = some n := ⟨l[j], List.getElem?_eq_getElem hj⟩
          have hnl := hll.2 n (List.mem_of_getElem? hn)
          obtain ⟨r, hr⟩ : ∃ r, pr[n]? = some r := ⟨pr[n], List.getElem?_eq_getElem hnl⟩
          have hro := ok.os r (List.mem_of_getElem? hr)
          have hdr : l.drop j = n :: l.drop (j + 1) := by
            rw [List.drop_eq_getElem_cons hj]
            congr 1
            have := List.getElem?_eq_getElem hj
            rw [hn] at this
            exact (Option.some.inj this).symm
          rw [hdr] at hc
          simp only [cutW, hr] at hc
          walk_at "go"
          rw [atI_nat (j := j) (v := .int (n : Nat)) (by rw [List.getElem?_map, hn]; rfl)]
          walk_at "go"
          rw [atI_nat (j := n) (v := r.d) (by rw [List.getElem?_map, hr]; rfl)]
          rw [show r.d = .tup [.tup (r.os.map Ord.d), r.nx.d] from rfl]
          walk_at "go"
          have tail : (s && r.mt) = false → dSeq (dAsg (dLc false (dIter (dVar 5)) (dName 7) dYes (dCall sp__law_to (dCons (dVar 7) dNil)) [7]) (dName 6)) (dAsg (dOrV (dVar 3) (dOrV (dOp (dInE id) (dTup dNil) (dVar 6)) (dCallB dAny (dCons (dLc false (dIter (dVar 6)) (dName 8) dYes (dOp dEq (dSlice false (dVar 8) dNoPart (dPart (dC (D.int 1)))) (dTup (dCons (dC (D.str (Str.ofString "reg"))) dNil))) [8]) dNil)))) (dName 3)) { nx := N2, rt := R, bk := N, ct := N2 } [some (.tup (pr.map Rw.d)), some (.ref p), some (wayD l), some (.bl s), some (.int (j : Nat)), some (.tup (r.os.map Ord.d)), x6, none, none] G2 := fun hb => by
            have hnext : ∀ y6, N2 [some (.tup (pr.map Rw.d)), some (.ref p), some (wayD l), some (.bl (s || r.seen)), some (.int (j : Nat)), some (.tup (r.os.map Ord.d)), y6, none, none] G2 := fun y6 => hN2 _ _ ⟨_, _, _, _, rfl, rfl, by
              rw [hc, hb, List.take_succ, hn]
              simp only [Bool.false_eq_true, if_false, Option.map_map]
              congr 1
              funext z
              simp⟩
            walk_at "go"
            refine lc_typ Ord.d dstL True.intro r.os [] (fun o ho Q k => by walk_at "go"; exact go_to k) _ ?_
            rw [List.nil_append]
            walk_at "go"
            refine br_go (fun hs => ?_) (fun hs => ⟨Nat.zero_le _, ?_⟩)
            · have := hnext (some (.lst (r.os.map dstL)))
              rw [hs, Bool.true_or] at this
              exact this
            · rw [hs, Bool.false_or] at hnext
              refine inE_L (fun z e => (by cases e)) rfl (dsts_pyL hM (hom r (List.mem_of_getElem? hr))) (by decide) ?_
              rw [in_dstN]
              cases hst : storeB r.os with
              | true =>
                have hse : r.seen = true := by
                  unfold Rw.seen
                  unfold storeB at hst
                  rw [List.any_eq_true] at hst ⊢
                  obtain ⟨o, ho, hk⟩ := hst
                  refine ⟨o, ho, ?_⟩
                  cases o <;> simp only [Ord.kind, ofString_inj, String.reduceEq, decide_false, Bool.false_eq_true] at hk
                  rfl
                rw [hse] at hnext
                exact hnext _
              | false =>
                have hse : r.os.any regB = r.seen := by
                  unfold Rw.seen
                  unfold storeB at hst
                  rw [List.any_eq_false] at hst
                  refine any_congrL fun o ho => ?_
                  have := hst o ho
                  cases o <;> first | rfl | exact absurd (decide_eq_true rfl) this
                refine ⟨small_line (by rw [List.length_map]; omega), ?_⟩
                refine any_typ dstL regB True.intro r.os (fun o ho Q q => ?_) ?_
                · walk_at "go"
                  unfold dstL
                  unfold regB at q
                  cases hd : o.dst with
                  | none =>
                    rw [hd] at q
                    walk_at "go"
                    refine (eq_pure (by decide) (by decide +kernel) (by decide) (by decide +kernel)).mpr ?_
                    exact q
                  | some pl =>
                    rw [hd] at q
                    cases pl with
                    | reg z =>
                      unfold Plc.d
                      walk_at "go"
                      rw [show cutL [D.str (Str.ofString "reg"), D.str z] none (some 1) = [D.str (Str.ofString "reg")] from rfl]
                      refine (eq_pure (by decide +kernel) (by decide +kernel) (by decide +kernel) (by decide +kernel)).mpr ?_
                      rw [show eqD (D.tup [D.str (Str.ofString "reg")]) (D.tup [D.str (Str.ofString "reg")]) = true by decide +kernel]
                      exact q
                    | hid z =>
                      unfold Plc.d
                      walk_at "go"
                      rw [show cutL [D.str (Str.ofString "hid"), D.int (z : Nat)] none (some 1) = [D.str (Str.ofString "hid")] from rfl]
                      refine (eq_pure (by decide +kernel) (by decide +kernel) (by decide +kernel) (by decide +kernel)).mpr ?_
                      rw [show eqD (D.tup [D.str (Str.ofString "hid")]) (D.tup [D.str (Str.ofString "reg")]) = false by decide +kernel]
                      exact q
                · rw [hse]
                  exact hnext _
          refine br_go (fun hs => ?_) (fun hs => tail (by rw [hs]; rfl))
          refine ⟨small_line (by rw [List.length_map]; omega), ?_⟩
          refine any_typ Ord.d Ord.mt True.intro r.os (fun o ho Q q => ?_) ?_
          · have exo : dIx o.d (.int 0) = fun G R => R (.str o.kind) G := by
              funext G R
              cases o <;> rfl
            walk_at "go"
            rw [exo]
            show 2 ≤ sizeLine ∧ dInE id (D.str o.kind) _ G2 Q
            have all : ∀ q ∈ (["alu", "move", "put", "load", "store"] : List Str), pyD (.str q) = true := by decide +kernel
            refine ⟨small_line (by decide), inE_lstS (z := o.kind) (zs := [(("load" : String) : Str), (("store" : String) : Str)]) (all o.kind (by cases o <;> simp [Ord.kind])) (fun y hy => all y ?_) ?_⟩
            · simp only [List.mem_cons, List.not_mem_nil, or_false] at hy
              rcases hy with rfl | rfl <;> simp
            · have e : decide (o.kind ∈ ([(("load" : String) : Str), (("store" : String) : Str)] : List Str)) = o.mt := by
                cases o <;> simp only [Ord.kind, Ord.mt, List.mem_cons, ofString_inj, String.reduceEq, List.not_mem_nil, or_false, false_or, or_true, true_or, decide_true, decide_false]
              rw [e]
              exact q
          · walk_at "w"
            refine br_go (fun hm => ?_) (fun hm => tail (by rw [hs]; exact hm))
            have hm : r.mt = true := hm
            refine ⟨mty_at ep, ?_⟩
            rw [atL_at ep]
            refine ⟨by rw [sizeLine_eq, List.length_map]; omega, ?_⟩
            walk_at "go"
            rw [hs, hm] at hc
            have hc : cutW pr false l = some (l.take (j + 1)) := by rw [hc, List.take_succ, hn]; rfl
            rw [hc] at hte
            refine hN _ _ ⟨_, _, _, _, _, rfl, Sub.put hS np, ?_⟩
            rw [gup_same, hte, show ((j : Int) + 1) = ((j + 1 : Nat) : Int) by omega, cut_take, ← List.map_take]
            simp
    rintro σ G2 ⟨W, x2, x3, x4, x5, x6, rfl, hW, hS, ep, hl⟩
    have hsp := ways_py (W.filterMap (cutW pr false))
    rcases h with ⟨hns, h⟩ | ⟨u, hu, h⟩
    · have he : W.filterMap (cutW pr false) = [] := by
        rw [List.filterMap_eq_nil_iff]
        intro l hl
        cases e : cutW pr false l with
        | none => rfl
        | some c => exact absurd (cut_sh (mx_iff.mp ((hW l).mp hl)) e).1 hns
      rw [he] at ep
      walk_at "go"
      show dEqW id (.ref p) (.lst []) G2 _
      rw [eqW_rl ep]
      show dEq (.lst ([].map wayD)) (.lst []) G2 _
      rw [eq_emptyL rfl (by decide)]
      walk_at "go"
      exact h
    · obtain ⟨l, hl1, hl2⟩ := uw_cut ok.fwd hu
      have hmem : u ∈ W.filterMap (cutW pr false) := List.mem_filterMap.mpr ⟨l, (hW l).mpr (mx_iff.mpr hl1), hl2⟩
      have hne : decide (((W.filterMap (cutW pr false)).map wayD) = []) = false := by
        rw [decide_eq_false_iff_not, List.map_eq_nil_iff]
        intro e
        rw [e] at hmem
        cases hmem
      walk_at "go"
      show dEqW id (.ref p) (.lst []) G2 _
      rw [eqW_rl ep]
      show dEq (.lst ((W.filterMap (cutW pr false)).map wayD)) (.lst []) G2 _
      rw [eq_emptyL hsp.1 (by have := hsp.2; omega), hne]
      walk_at "w"
      refine ⟨.ref p, (W.filterMap (cutW pr false)).map zI, rfl, ?_, ?_, fun m hm hm2 => ?_⟩
      · rw [lstOf_r ep, List.map_map]
        refine congrArg some (List.map_congr_left fun l _ => ?_)
        show wayD l = tupI (zI l)
        rw [tupI, zI, List.map_map]
        rfl
      · intro e
        rw [List.map_eq_nil_iff] at e
        rw [e] at hmem
        cases hmem
      · obtain ⟨c, hc, rfl⟩ := List.mem_map.mp hm
        obtain ⟨l', hl', hc'⟩ := List.mem_filterMap.mp hc
        have h1 := uw_least hu (mx_iff.mp ((hW l').mp hl')) hc'
        have h2 := hm2 (zI u) (List.mem_map.mpr ⟨u, hmem, rfl⟩)
        have h3 := ltI_tri h1 h2
        refine rt_sub hS ?_
        rw [h3, tupI, zI, List.map_map]
        exact h
theorem go_due {M : Mach} {pr : List Rw} {G : Gp} {R : DK} (hM : M.ok) (hom : ∀ r ∈ pr, ∀ o ∈ r.os, o.ok M) (ok : PrOk pr) (h0 : 0 < pr.length) (h9 : pr.length ≤ 9) (h : (¬ Sh pr 0 false ∧ R .non G) ∨ ∃ u, Uw pr 0 false u ∧ R (.tup (intsN u)) G) : sp__law_due [.tup (pr.map Rw.d)] G R := ⟨M, pr, rfl, hM, hom, ok, h0, h9, h⟩
end K64


set_option Elab.async false
set_option linter.all false
set_option maxRecDepth 100000
set_option maxHeartbeats 4000000
set_option autoImplicit false
namespace K64
open PySem PySem.Spec PyProof.Rows L2 DL
local macro_rules | `(tactic| walk_at "d") => `(tactic| dsimp only [dSeq, dNext, dIfS, dRet, dRetN, dAsg, dName, dVar, dC, dOp, dUn, dChain, dB, dAnd, dOr, dNot, dAndV, dOrV, dNotV, dIf, dNil, dCons, dTup, dLst, newL, dCallB, dCall, dCallK, dDrop, dAug, dAugS, dSub, dM, dM0, dSlice, dNoPart, dPart, dLc, dYes, dFor, dIter, dRng1, dEnum, dZipM, srcD, dStar, dInK, dIxK, dLenSet, dRev,
  startD, wipeD, setAll, dNames, List.map_cons, List.map_nil, List.length_cons, List.length_nil, List.replicate, List.cons_append, List.nil_append, List.append_nil, List.getElem?_cons_zero, List.getElem?_cons_succ, List.set_cons_zero, List.set_cons_succ, List.map, Nat.zero_add, Nat.reduceAdd, Nat.reduceSub, Nat.sub_self, Nat.succ_sub_succ_eq_sub])
local macro_rules | `(tactic| walk_at "o") => `(tactic| simp only [dAdd_ii, dAdd_ss, dAdd_tt, dAdd_ll, dMinus_ii, dMul_ii, dMod_ii, dFdiv_ii, dPow_ii, dShl_ii, dNeg_i, dIadd_ii, dLt_ii, dLe_ii, dGt_ii, dGe_ii, dEq_ii, dNe_ii, dEq_ss, dNe_ss, dEq_bb, dNe_bb, dIs_n, dIsNot_n, dMax2_ii, dMin2_ii, dTuple_t, dTuple_l, dList_t, dList_l, dIx_t, dIx_l, dIx_s, dSl_t, dSl_l, dSl_s, newL_f, len_tup, len_lst])
local macro_rules | `(tactic| walk_at "w") => `(tactic| dsimp only [x_var, x_c, x_op, x_un, x_b, x_and, x_or, x_not, x_chain, x_andV, x_orV, x_notV, x_if, x_nil, x_cons, x_tup, x_lst0, x_lst1, x_callB, x_call, x_callK, x_next, x_seq, x_break, x_cont, x_drop, x_ret, x_ifS, x_asg, x_name, x_names, x_sub, x_aug, x_augS, x_for, x_lc0, x_lc1, x_yes, x_noPart, x_part, x_slice, x_iter, it_t, it_l, it_n, it_s, it_r, x_rng1, x_enum, x_rev, x_m, x_m0, x_mX, x_zip, x_star_t, x_star_l, x_lenSet, x_forgo0, x_lcgo0, x_while, x_par, x_sortK,
  br_t, br_f, isB_bl, isI_int, isN_some, slo_some, atL_lst, ix_t, ix_l, ix_n,
  dAdd_ii, dAdd_ss, dAdd_tt, dAdd_ll, dMinus_ii, dMul_ii, dMod_ii, dFdiv_ii, dPow_ii, dShl_ii, dNeg_i, dIadd_ii, dLt_ii, dLe_ii, dGt_ii, dGe_ii, ltE_ii, ltE_ss, srcD, isi_i, isi_s, isi_b, isi_n, isi_t, isi_nt, isi_l, isi2_i, isi2_s, isi2_b, isi2_n, isi2_t, isi2_nt, isi2_l, inon_n, inon_i, inon_s, inon_b, inon_t, inon_l, inon_r, dEq_ii, dNe_ii, dEq_ss, dNe_ss, dEq_bb, dNe_bb, dIs_n, dIsNot_n, dMax2_ii, dMin2_ii, dTuple_t, dTuple_l, dList_t, dList_l, dSl_t, dSl_l, dSl_s, newL_f, newL_t, app_r, int_b, int_i, strI_i, strX_i, strX_s,
  startD, wipeD, setAll, permL, List.filterMap, List.map_cons, List.map_nil, List.length_cons, List.length_nil, List.replicate, List.cons_append, List.nil_append, List.append_nil, List.getElem?_cons_zero, List.getElem?_cons_succ, List.set_cons_zero, List.set_cons_succ, List.map, Nat.zero_add, Nat.reduceAdd, Nat.reduceSub, Nat.sub_self, Nat.succ_sub_succ_eq_sub])
local macro_rules | `(tactic| walk_at "v") => `(tactic| simp only [ofString_inj, String.reduceEq, at_0, at_1, at_2, at_3, at_4, at_5, isN_some, isBB_bl, isB_bl, br_t, br_f, br_not, br_and, br_or, br_dec, ix_r, len_tup, len_lst, len_nt, ltE_key, gup_gup, gup_same, starD_one, cut1, cut2, kt1, kt2, kt3, kt4, kt5, kt6, isTy, String.reduceBEq, Bool.or_false, Bool.false_or, Bool.true_or, Bool.or_true, Bool.and_false, Bool.false_and, Bool.true_and, Bool.and_true, Bool.not_true, Bool.not_false, decide_true, decide_false, eq_self_iff_true, Bool.false_eq_true, Int.reduceAdd, Int.add_zero, if_true, if_false, true_and, and_true])
local macro_rules | `(tactic| walk_at "side") => `(tactic| first | with_reducible assumption | omega | exact mty_up | exact True.intro | (simp only [List.mem_cons, ofString_inj, String.reduceEq, true_or, or_true, List.length_map]; done) | with_reducible exact (rfl : (_ : Nat) = _) | exact (rfl : (_ : Option String) = _) | (refine small_line ?_; omega) | (walk_at "ll"; first | omega | (refine small_line ?_; omega) | fail) | (exact log_small (by omega)) | fail)
local macro_rules | `(tactic| walk_at "x") => `(tactic| fail)
local macro_rules | `(tactic| walk_at "go") => `(tactic| repeat' (first | dsimp only [x_var, x_c, x_op, x_un, x_b, x_and, x_or, x_not, x_chain, x_andV, x_orV, x_notV, x_if, x_nil, x_cons, x_tup, x_lst0, x_lst1, x_callB, x_call, x_callK, x_next, x_seq, x_break, x_cont, x_drop, x_ret, x_ifS, x_asg, x_name, x_names, x_sub, x_aug, x_augS, x_for, x_lc0, x_lc1, x_yes, x_noPart, x_part, x_slice, x_iter, it_t, it_l, it_n, it_s, it_r, x_rng1, x_enum, x_rev, x_m, x_m0, x_mX, x_zip, x_star_t, x_star_l, x_lenSet, x_forgo0, x_lcgo0, x_while, x_par, x_sortK, br_t, br_f, isB_bl, isI_int, isN_some, slo_some, atL_lst, ix_t, ix_l, ix_n, dAdd_ii, dAdd_ss, dAdd_tt, dAdd_ll, dMinus_ii, dMul_ii, dMod_ii, dFdiv_ii, dPow_ii, dShl_ii, dNeg_i, dIadd_ii, dLt_ii, dLe_ii, dGt_ii, dGe_ii, ltE_ii, ltE_ss, srcD, isi_i, isi_s, isi_b, isi_n, isi_t, isi_nt, isi_l, isi2_i, isi2_s, isi2_b, isi2_n, isi2_t, isi2_nt, isi2_l, inon_n, inon_i, inon_s, inon_b, inon_t, inon_l, inon_r, dEq_ii, dNe_ii, dEq_ss, dNe_ss, dEq_bb, dNe_bb, dIs_n, dIsNot_n, dMax2_ii, dMin2_ii, dTuple_t, dTuple_l, dList_t, dList_l, dSl_t, dSl_l, dSl_s, newL_f, newL_t, app_r, int_b, int_i, strI_i, strX_i, strX_s, startD, wipeD, setAll, permL, List.filterMap, List.map_cons, List.map_nil, List.length_cons, List.length_nil, List.replicate, List.cons_append, List.nil_append, List.append_nil, List.getElem?_cons_zero, List.getElem?_cons_succ, List.set_cons_zero, List.set_cons_succ, List.map, Nat.zero_add, Nat.reduceAdd, Nat.reduceSub, Nat.sub_self, Nat.succ_sub_succ_eq_sub] | simp only [ofString_inj, String.reduceEq, at_0, at_1, at_2, at_3, at_4, at_5, isN_some, isBB_bl, isB_bl, br_t, br_f, br_not, br_and, br_or, br_dec, ix_r, len_tup, len_lst, len_nt, ltE_key, gup_gup, gup_same, starD_one, cut1, cut2, kt1, kt2, kt3, kt4, kt5, kt6, isTy, String.reduceBEq, Bool.or_false, Bool.false_or, Bool.true_or, Bool.or_true, Bool.and_false, Bool.false_and, Bool.true_and, Bool.and_true, Bool.not_true, Bool.not_false, decide_true, decide_false, eq_self_iff_true, Bool.false_eq_true, Int.reduceAdd, Int.add_zero, if_true, if_false, true_and, and_true] | walk_at "x" | with_reducible refine kont_go ?_ | with_reducible refine rt_sub (by assumption) ?_ | with_reducible refine rt_lst (by assumption) ?_ | with_reducible refine rt_drop (by assumption) ?_ | with_reducible refine rt_keep (by assumption) (by assumption) ?_ | with_reducible refine rt_same ?_ | (refine fun (p : Addr) (_ : _ = none) => ?_) | refine join_gor gup_same rfl (by walk_at "side") ?_ | with_reducible refine lc_cons ?_ | with_reducible refine for_cons ?_ | refine join_go rfl (by walk_at "side") ?_ | refine And.intro (by first | with_reducible assumption | omega | exact mty_up | exact True.intro | (simp only [List.mem_cons, ofString_inj, String.reduceEq, true_or, or_true, List.length_map]; done) | with_reducible exact (rfl : (_ : Nat) = _) | exact (rfl : (_ : Option String) = _) | (refine small_line ?_; omega) | (walk_at "ll"; first | omega | (refine small_line ?_; omega) | fail) | (exact log_small (by omega)) | fail) ?_ | fail))
local macro_rules | `(tactic| walk_at "ll") => `(tactic| simp only [List.length_map, List.length_append, List.length_cons, List.length_nil, List.map_cons, List.map_nil, List.sum_cons, List.sum_nil, len_app, rng_length, ll_0, ll_1, ll_2, ll_3, ll_4, ll_5, ll_6, ll_7, ll_8, ll_9, ll_10, ll_11, ll_12, ll_13, ll_14, ll_15, ll_16, ll_17, ll_18, ll_19, ll_20, ll_21, ll_22, ll_23, ll_24, ll_25, ll_26, ll_27])

/-! ### the same: None, numbers, tuples of these -/
inductive Pln : Nat → D → Prop
  | non {n : Nat} : Pln n .non
  | int {n : Nat} (i : Int) : Pln n (.int i)
  | tup {n : Nat} (ds : List D) : ds.length ≤ 1000 → (∀ d ∈ ds, Pln n d) → Pln (n + 1) (.tup ds)
theorem zipD_self : ∀ ds : List D, zipD ds ds = ds.map fun d => D.tup [d, d]
  | [] => rfl
  | d :: ds => by rw [zipD, zipD_self ds]; rfl
def sp__law_same (n : Nat) : DSp := fun ds G R => ∃ x, ds = [x, x] ∧ Pln n x ∧ R (.bl true) G
theorem ok0__law_same {P : Program} {w : World} {K : PySem.W.Frag} {mg : Str → Option Value} {base : Heap} {a : Ad} (T : TxB w K mg base a) {n j : Nat} {sp' : DSp} (ih : FnD P w K mg base j a.f__law_same a.fd__law_same ["found", "due"] sp') (hj : j ≤ n) (hs : ∀ m, n = m + 1 → ∀ ds G R, sp__law_same m ds G R → sp' ds G R) : FnD P w K mg base (n + 1) a.f__law_same a.fd__law_same ["found", "due"] (sp__law_same n) := by
  refine fun_okD T.F__law_same sc__law_same (fun ds G R h => ?_) (fun cdv A outer s H hr => ⟨_, (qss_cons (qs_if (qt_cmp od_is (qv 1) qe_non (nomark _))
      (qss_one (qs_ret (qe_cmp od_is (qv 0) qe_non (nomark _))))
      qss_nil)
      (qss_cons (qs_if (qt_val (qe_callB cd_isiX rfl T.n_isinstance (by decide +kernel) (qa_cons (qv 1) (qa_cons (qe_ty (n := "int") rfl T.n_int (by decide +kernel)) qa_nil))))
      (qss_one (qs_ret (qe_and (qe_callB cd_isiX rfl T.n_isinstance (by decide +kernel) (qa_cons (qv 0) (qa_cons (qe_ty (n := "int") rfl T.n_int (by decide +kernel)) qa_nil))) (qe_and (qe_not (qe_callB cd_isiX rfl T.n_isinstance (by decide +kernel) (qa_cons (qv 0) (qa_cons (qe_ty (n := "bool") rfl T.n_bool (by decide +kernel)) qa_nil)))) (qe_one (qe_cmp (od_eq hr.units) (qv 0) (qv 1) (nomark _)))))))
      qss_nil)
      (qss_cons (qs_if (qt_val (qe_callB cd_isiX rfl T.n_isinstance (by decide +kernel) (qa_cons (qv 1) (qa_cons (qe_ty (n := "str") rfl T.n_str (by decide +kernel)) qa_nil))))
      (qss_one (qs_ret (qe_and (qe_callB cd_isiX rfl T.n_isinstance (by decide +kernel) (qa_cons (qv 0) (qa_cons (qe_ty (n := "str") rfl T.n_str (by decide +kernel)) qa_nil))) (qe_one (qe_cmp (od_eq hr.units) (qv 0) (qv 1) (nomark _))))))
      qss_nil)
      (qss_cons (qs_if (QW.pt (qw_or (qt_cmp (od_ne hr.units) (qe_callB cd_isiX rfl T.n_isinstance (by decide +kernel) (qa_cons (qv 1) (qa_cons (qe_ty (n := "tuple") rfl T.n_tuple (by decide +kernel)) qa_nil))) (qe_callB cd_isiX rfl T.n_isinstance (by decide +kernel) (qa_cons (qv 0) (qa_cons (qe_ty (n := "tuple") rfl T.n_tuple (by decide +kernel)) qa_nil))) (nomark _)) (qw_or1 (qt_cmp (od_ne hr.units) (qe_callB cd_isiX rfl T.n_isinstance (by decide +kernel) (qa_cons (qv 1) (qa_cons (qe_ty (n := "list") rfl T.n_list (by decide +kernel)) qa_nil))) (qe_callB cd_isiX rfl T.n_isinstance (by decide +kernel) (qa_cons (qv 0) (qa_cons (qe_ty (n := "list") rfl T.n_list (by decide +kernel)) qa_nil))) (nomark _)))))
      (qss_one (qs_ret qe_bl))
      qss_nil)
      (qss_one (qs_ret (qe_and (qe_cmp (od_eq hr.units) (qe_callB cd_len rfl T.n_len (by decide +kernel) (qa_cons (qv 0) qa_nil)) (qe_callB cd_len rfl T.n_len (by decide +kernel) (qa_cons (qv 1) qa_nil)) (nomark _)) (qe_one (qe_callB (cd_all rfl) rfl T.n_all (by decide +kernel) (qa_cons (qe_lc false rfl sc__law_same.nd (qi_zipM rfl T.n_zip (qa_cons (qv 0) (qa_cons (qv 1) qa_nil))) (blkOk_by (own := [("one", 2), ("other", 3)]) (N := N__law_same) (sc := defScope s__law_same) (by decide +kernel)) (fun _ _ _ _ _ => (pg_tup rfl (pgs_cons (pg_name (i := 2) sc__law_same.nd rfl (.inl rfl)) (pgs_cons (pg_name (i := 3) sc__law_same.nd rfl (.inl rfl)) pgs_nil)))) (tg_names (is := [2, 3]) (by decide) rfl) (fun _ _ _ _ _ => qts_nil) (fun _ _ _ _ _ => (qe_call ih (hr.mono (by omega)) rfl T.g__law_same T.F__law_same.kp T.b__law_same (qa_cons (qv 2) (qa_cons (qv 3) qa_nil))))) qa_nil)))))))))), fun ds G R h => ?_⟩)
  · obtain ⟨x, rfl, _⟩ := h; rfl
  · obtain ⟨x, rfl, hx, h⟩ := h
    cases hx with
    | non => walk_at "go"; exact h
    | int i =>
      walk_at "go"
      exact h
    | tup ds hl hds =>
      walk_at "go"
      rw [zipD_self]
      refine ⟨small_line (by rw [List.length_map]; omega), ?_⟩
      refine all_typ (fun d : D => D.tup [d, d]) (fun _ => true) True.intro ds (fun d hd Q q => ?_) ?_
      · walk_at "go"
        exact hs _ rfl _ _ _ ⟨_, rfl, hds d hd, q⟩
      · rw [List.all_eq_true.mpr fun _ _ => rfl]
        walk_at "go"
        exact h
theorem ok__law_same_n {P : Program} {w : World} {K : PySem.W.Frag} {mg : Str → Option Value} {base : Heap} {a : Ad} (T : TxB w K mg base a) : ∀ n : Nat, FnD P w K mg base (n + 1) a.f__law_same a.fd__law_same ["found", "due"] (sp__law_same n)
  | 0 => ok0__law_same T (j := 0) fnd_never (by omega) (fun m e => by omega)
  | n + 1 => ok0__law_same T (ok__law_same_n T n) (by omega) (fun m e ds G R h => by
    have : n = m := by omega
    subst this
    exact h)
theorem ok__law_same {P : Program} {w : World} {K : PySem.W.Frag} {mg : Str → Option Value} {base : Heap} {a : Ad} (T : TxB w K mg base a) : FnD P w K mg base 4 a.f__law_same a.fd__law_same ["found", "due"] (sp__law_same 3) := ok__law_same_n T 3
theorem go_same {x : D} {G : Gp} {R : DK} (hx : Pln 3 x) (k : R (.bl true) G) : sp__law_same 3 [x, x] G R := ⟨x, rfl, hx, k⟩
end K64


set_option Elab.async false
set_option linter.all false
set_option maxRecDepth 100000
set_option maxHeartbeats 4000000
set_option autoImplicit false
namespace K64
open PySem PySem.Spec PyProof.Rows L2 DL
local macro_rules | `(tactic| walk_at "d") => `(tactic| dsimp only [dSeq, dNext, dIfS, dRet, dRetN, dAsg, dName, dVar, dC, dOp, dUn, dChain, dB, dAnd, dOr, dNot, dAndV, dOrV, dNotV, dIf, dNil, dCons, dTup, dLst, newL, dCallB, dCall, dCallK, dDrop, dAug, dAugS, dSub, dM, dM0, dSlice, dNoPart, dPart, dLc, dYes, dFor, dIter, dRng1, dEnum, dZipM, srcD, dStar, dInK, dIxK, dLenSet, dRev,
  startD, wipeD, setAll, dNames, List.map_cons, List.map_nil, List.length_cons, List.length_nil, List.replicate, List.cons_append, List.nil_append, List.append_nil, List.getElem?_cons_zero, List.getElem?_cons_succ, List.set_cons_zero, List.set_cons_succ, List.map, Nat.zero_add, Nat.reduceAdd, Nat.reduceSub, Nat.sub_self, Nat.succ_sub_succ_eq_sub])
local macro_rules | `(tactic| walk_at "o") => `(tactic| simp only [dAdd_ii, dAdd_ss, dAdd_tt, dAdd_ll, dMinus_ii, dMul_ii, dMod_ii, dFdiv_ii, dPow_ii, dShl_ii, dNeg_i, dIadd_ii, dLt_ii, dLe_ii, dGt_ii, dGe_ii, dEq_ii, dNe_ii, dEq_ss, dNe_ss, dEq_bb, dNe_bb, dIs_n, dIsNot_n, dMax2_ii, dMin2_ii, dTuple_t, dTuple_l, dList_t, dList_l, dIx_t, dIx_l, dIx_s, dSl_t, dSl_l, dSl_s, newL_f, len_tup, len_lst])
local macro_rules | `(tactic| walk_at "w") => `(tactic| dsimp only [x_var, x_c, x_op, x_un, x_b, x_and, x_or, x_not, x_chain, x_andV, x_orV, x_notV, x_if, x_nil, x_cons, x_tup, x_lst0, x_lst1, x_callB, x_call, x_callK, x_next, x_seq, x_break, x_cont, x_drop, x_ret, x_ifS, x_asg, x_name, x_names, x_sub, x_aug, x_augS, x_for, x_lc0, x_lc1, x_yes, x_noPart, x_part, x_slice, x_iter, it_t, it_l, it_n, it_s, it_r, x_rng1, x_enum, x_rev, x_m, x_m0, x_mX, x_zip, x_star_t, x_star_l, x_lenSet, x_forgo0, x_lcgo0, x_while, x_par, x_sortK,
  br_t, br_f, isB_bl, isI_int, isN_some, slo_some, atL_lst, ix_t, ix_l, ix_n,
  dAdd_ii, dAdd_ss, dAdd_tt, dAdd_ll, dMinus_ii, dMul_ii, dMod_ii, dFdiv_ii, dPow_ii, dShl_ii, dNeg_i, dIadd_ii, dLt_ii, dLe_ii, dGt_ii, dGe_ii, ltE_ii, ltE_ss, srcD, isi_i, isi_s, isi_b, isi_n, isi_t, isi_nt, isi_l, isi2_i, isi2_s, isi2_b, isi2_n, isi2_t, isi2_nt, isi2_l, inon_n, inon_i, inon_s, inon_b, inon_t, inon_l, inon_r, dEq_ii, dNe_ii, dEq_ss, dNe_ss, dEq_bb, dNe_bb, dIs_n, dIsNot_n, dMax2_ii, dMin2_ii, dTuple_t, dTuple_l, dList_t, dList_l, dSl_t, dSl_l, dSl_s, newL_f, newL_t, app_r, int_b, int_i, strI_i, strX_i, strX_s,
  startD, wipeD, setAll, permL, List.filterMap, List.map_cons, List.map_nil, List.length_cons, List.length_nil, List.replicate, List.cons_append, List.nil_append, List.append_nil, List.getElem?_cons_zero, List.getElem?_cons_succ, List.set_cons_zero, List.set_cons_succ, List.map, Nat.zero_add, Nat.reduceAdd, Nat.reduceSub, Nat.sub_self, Nat.succ_sub_succ_eq_sub])
local macro_rules | `(tactic| walk_at "v") => `(tactic| simp only [ofString_inj, String.reduceEq, at_0, at_1, at_2, at_3, at_4, at_5, isN_some, isBB_bl, isB_bl, br_t, br_f, br_not, br_and, br_or, br_dec, ix_r, len_tup, len_lst, len_nt, ltE_key, gup_gup, gup_same, starD_one, cut1, cut2, kt1, kt2, kt3, kt4, kt5, kt6, isTy, String.reduceBEq, Bool.or_false, Bool.false_or, Bool.true_or, Bool.or_true, Bool.and_false, Bool.false_and, Bool.true_and, Bool.and_true, Bool.not_true, Bool.not_false, decide_true, decide_false, eq_self_iff_true, Bool.false_eq_true, Int.reduceAdd, Int.add_zero, if_true, if_false, true_and, and_true])
local macro_rules | `(tactic| walk_at "side") => `(tactic| first | with_reducible assumption | omega | exact mty_up | exact True.intro | (simp only [List.mem_cons, ofString_inj, String.reduceEq, true_or, or_true, List.length_map]; done) | with_reducible exact (rfl : (_ : Nat) = _) | exact (rfl : (_ : Option String) = _) | (refine small_line ?_; omega) | (walk_at "ll"; first | omega | (refine small_line ?_; omega) | fail) | (exact log_small (by omega)) | fail)
local macro_rules | `(tactic| walk_at "x") => `(tactic| fail)
local macro_rules | `(tactic| walk_at "go") => `(tactic| repeat' (first | dsimp only [x_var, x_c, x_op, x_un, x_b, x_and, x_or, x_not, x_chain, x_andV, x_orV, x_notV, x_if, x_nil, x_cons, x_tup, x_lst0, x_lst1, x_callB, x_call, x_callK, x_next, x_seq, x_break, x_cont, x_drop, x_ret, x_ifS, x_asg, x_name, x_names, x_sub, x_aug, x_augS, x_for, x_lc0, x_lc1, x_yes, x_noPart, x_part, x_slice, x_iter, it_t, it_l, it_n, it_s, it_r, x_rng1, x_enum, x_rev, x_m, x_m0, x_mX, x_zip, x_star_t, x_star_l, x_lenSet, x_forgo0, x_lcgo0, x_while, x_par, x_sortK, br_t, br_f, isB_bl, isI_int, isN_some, slo_some, atL_lst, ix_t, ix_l, ix_n, dAdd_ii, dAdd_ss, dAdd_tt, dAdd_ll, dMinus_ii, dMul_ii, dMod_ii, dFdiv_ii, dPow_ii, dShl_ii, dNeg_i, dIadd_ii, dLt_ii, dLe_ii, dGt_ii, dGe_ii, ltE_ii, ltE_ss, srcD, isi_i, isi_s, isi_b, isi_n, isi_t, isi_nt, isi_l, isi2_i, isi2_s, isi2_b, isi2_n, isi2_t, isi2_nt, isi2_l, inon_n, inon_i, inon_s, inon_b, inon_t, inon_l, inon_r, dEq_ii, dNe_ii, dEq_ss, dNe_ss, dEq_bb, dNe_bb, dIs_n, dIsNot_n, dMax2_ii, dMin2_ii, dTuple_t, dTuple_l, dList_t, dList_l, dSl_t, dSl_l, dSl_s, newL_f, newL_t, app_r, int_b, int_i, strI_i, strX_i, strX_s, startD, wipeD, setAll, permL, List.filterMap, List.map_cons, List.map_nil, List.length_cons, List.length_nil, List.replicate, List.cons_append, List.nil_append, List.append_nil, List.getElem?_cons_zero, List.getElem?_cons_succ, List.set_cons_zero, List.set_cons_succ, List.map, Nat.zero_add, Nat.reduceAdd, Nat.reduceSub, Nat.sub_self, Nat.succ_sub_succ_eq_sub] | simp only [ofString_inj, String.reduceEq, at_0, at_1, at_2, at_3, at_4, at_5, isN_some, isBB_bl, isB_bl, br_t, br_f, br_not, br_and, br_or, br_dec, ix_r, len_tup, len_lst, len_nt, ltE_key, gup_gup, gup_same, starD_one, cut1, cut2, kt1, kt2, kt3, kt4, kt5, kt6, isTy, String.reduceBEq, Bool.or_false, Bool.false_or, Bool.true_or, Bool.or_true, Bool.and_false, Bool.false_and, Bool.true_and, Bool.and_true, Bool.not_true, Bool.not_false, decide_true, decide_false, eq_self_iff_true, Bool.false_eq_true, Int.reduceAdd, Int.add_zero, if_true, if_false, true_and, and_true] | walk_at "x" | with_reducible refine kont_go ?_ | with_reducible refine rt_sub (by assumption) ?_ | with_reducible refine rt_lst (by assumption) ?_ | with_reducible refine rt_drop (by assumption) ?_ | with_reducible refine rt_keep (by assumption) (by assumption) ?_ | with_reducible refine rt_same ?_ | (refine fun (p : Addr) (_ : _ = none) => ?_) | refine join_gor gup_same rfl (by walk_at "side") ?_ | with_reducible refine lc_cons ?_ | with_reducible refine for_cons ?_ | refine join_go rfl (by walk_at "side") ?_ | refine And.intro (by first | with_reducible assumption | omega | exact mty_up | exact True.intro | (simp only [List.mem_cons, ofString_inj, String.reduceEq, true_or, or_true, List.length_map]; done) | with_reducible exact (rfl : (_ : Nat) = _) | exact (rfl : (_ : Option String) = _) | (refine small_line ?_; omega) | (walk_at "ll"; first | omega | (refine small_line ?_; omega) | fail) | (exact log_small (by omega)) | fail) ?_ | fail))
local macro_rules | `(tactic| walk_at "ll") => `(tactic| simp only [List.length_map, List.length_append, List.length_cons, List.length_nil, List.map_cons, List.map_nil, List.sum_cons, List.sum_nil, len_app, rng_length, ll_0, ll_1, ll_2, ll_3, ll_4, ll_5, ll_6, ll_7, ll_8, ll_9, ll_10, ll_11, ll_12, ll_13, ll_14, ll_15, ll_16, ll_17, ll_18, ll_19, ll_20, ll_21, ll_22, ll_23, ll_24, ll_25, ll_26, ll_27])
/-! ### the law's end, tables told -/
def sp_law (a : Ad) : DSp := fun ds G R => ∃ ns : List Int, ds = [.lst (ns.map D.int)] ∧ ns.length ≤ 63 ∧ (∀ p ∈ tabsQ a, G p.1 = some (.tab p.2)) ∧ ∀ G', R (.bl true) G'
def spV_law (a : Ad) (K : PySem.W.Frag) : Sp := upSp K (sp_law a)
theorem rds_ints {K : PySem.W.Frag} {H : Hp} {N : Ns} : ∀ ns : List Int, RDs K H N (ns.map D.int) (ns.map V.int)
  | [] => by simp only [List.map_nil, RDs]
  | n :: ns => by simp only [List.map_cons, RDs]; exact ⟨_, _, rfl, by simp only [RD], rds_ints ns⟩
def tabG (a : Ad) : Gp := fun q => ((tabsQ a).lookup q).map GO.tab
theorem look_memT {q : Addr} {x : Str} : ∀ {l : List (Addr × Str)}, l.lookup q = some x → (q, x) ∈ l
  | [], h => by cases h
  | (b, y) :: l, h => by
    rw [List.lookup_cons] at h
    cases e : (q == b) with
    | true =>
      rw [e] at h
      cases h
      rw [beq_iff_eq.mp e]
      exact List.mem_cons_self
    | false =>
      rw [e] at h
      exact List.mem_cons_of_mem _ (look_memT h)
theorem look_ofT {q : Addr} {x : Str} : ∀ {l : List (Addr × Str)}, (l.map (·.1)).Nodup → (q, x) ∈ l → l.lookup q = some x
  | [], _, h => by cases h
  | (b, y) :: l, hn, h => by
    rw [List.map_cons, List.nodup_cons] at hn
    rw [List.lookup_cons]
    rcases List.mem_cons.mp h with h1 | h1
    · cases h1
      rw [beq_self_eq_true]
    · cases e : (q == b) with
      | true =>
        have := beq_iff_eq.mp e
        subst this
        exact absurd (List.mem_map.mpr ⟨(q, x), h1, rfl⟩ : q ∈ l.map (·.1)) hn.1
      | false => exact look_ofT hn.2 h1
theorem tabs_LQ (a : Ad) : ∀ q x, (q, x) ∈ tabsQ a → ∃ p ∈ tabsL a, p.2 = q := by
  intro q x h
  have e : (tabsQ a).map (·.1) = (tabsL a).map (·.2) := rfl
  have : q ∈ (tabsL a).map (·.2) := by rw [← e]; exact List.mem_map.mpr ⟨_, h, rfl⟩
  obtain ⟨p, hp, rfl⟩ := List.mem_map.mp this
  exact ⟨p, hp, rfl⟩
theorem spV_at {a : Ad} {K : PySem.W.Frag} {H : Hp} {b : Addr} {ns : List Int} (hn : ((tabsQ a).map (·.1)).Nodup) (hl : ns.length ≤ 63) (hb : ∀ z ∈ ns, Builtin.Int.intBits z ≤ 1048576) (hT : ∀ p ∈ tabsL a, H p.2 = some (.tbl #[])) (hS : SqL K H b (ns.map V.int)) : spV_law a K [.ref b] H (fun v _ => v = .bl true) (fun _ _ _ => False) := by
  have nT : ∀ {q o}, H q = some o → (∀ ps, o ≠ .tbl ps) → ¬ (tabsQ a).lookup q ≠ none := fun {q o} e no z => by
    cases el : (tabsQ a).lookup q with
    | none => exact z el
    | some x =>
      obtain ⟨p, hp, rfl⟩ := tabs_LQ a q x (look_memT el)
      rw [hT p hp] at e
      exact no _ (Option.some.inj e).symm
  have hA : LstAt K H (fun q => (tabsQ a).lookup q ≠ none) b (ns.map V.int) := by
    rcases hS with (h | h) | h
    · exact .inl ⟨h, nT h fun ps e => by cases e⟩
    · exact .inr (.inl h)
    · exact .inr (.inr h)
  refine ⟨[.lst (ns.map D.int)], tabG a, fun q => (tabsQ a).lookup q ≠ none, fun d _ => d = .bl true, ?_, fun p o e => ?_, ⟨ns, rfl, hl, fun p hp => ?_, fun _ => rfl⟩, fun d G' N' v H' hd _ r => ?_⟩
  · simp only [RDs]
    exact ⟨_, [], rfl, RD.lst hA (rds_ints ns), rfl⟩
  · unfold tabG at e
    cases el : (tabsQ a).lookup p with
    | none => rw [el] at e; cases e
    | some x =>
      rw [el] at e
      cases e
      refine ⟨(by intro z; rw [z] at el; cases el), ?_⟩
      obtain ⟨q, hq, rfl⟩ := tabs_LQ a p x (look_memT el)
      exact LamX.TabS.nil (hT q hq)
  · unfold tabG
    rw [look_ofT hn (show (p.1, p.2) ∈ tabsQ a from hp)]
    rfl
  · subst hd
    exact r.of_bl
theorem cut_map {α β : Type} (f : α → β) (l : List α) (lo hi : Option Int) : cutL (l.map f) lo hi = (cutL l lo hi).map f := by
  unfold cutL
  rw [List.length_map, List.map_take, List.map_drop]
theorem ints_pyL : ∀ ns : List Int, pyDs (ns.map D.int) = true ∧ depDs (ns.map D.int) ≤ 1
  | [] => ⟨rfl, by simp [depDs]⟩
  | n :: ns => by
    obtain ⟨h1, h2⟩ := ints_pyL ns
    simp only [List.map_cons, pyDs, depDs, pyD, depD, Bool.and_eq_true]
    exact ⟨⟨trivial, h1⟩, by omega⟩
theorem cells_go {ns : List Int} (hl : ns.length ≤ 63) {m : Nat} (hm : m ≤ 63) {p : Addr} {G : Gp} {K : DK} (ep : G p = some (.lst [.int 0])) (k : ∀ cs : List Int, cs.length ≤ m + 1 → K (.lst (cs.map D.int)) G) :
    dEq (D.lst (ns.map D.int)) (D.lst []) G fun x G1 => dInt [x] G1 fun y G2 => dRep false (D.ref p) y G2 fun y G2 => dAdd false (D.lst (cutL (ns.map D.int) none (some (m : Nat)))) y G2 K := by
  obtain ⟨py1, py2⟩ := ints_pyL ns
  rw [eq_empty py1 (by omega)]
  show dRep false (D.ref p) (.int (if decide (ns.map D.int = []) = true then 1 else 0)) G _
  refine rep_go (ds := [.int 0]) ep (by split <;> decide) (by split <;> decide) (by split <;> decide) ?_
  rw [cut_map]
  generalize hk : Int.toNat (if decide (List.map D.int ns = []) = true then 1 else 0) = j
  have hk1 : j ≤ 1 := by rw [← hk]; split <;> decide
  have er : (List.replicate j [D.int 0]).flatten = (List.replicate j (0 : Int)).map D.int := by
    rcases (show j = 0 ∨ j = 1 by omega) with rfl | rfl <;> rfl
  have hcl : (cutL ns none (some (m : Nat))).length ≤ m := by
    rw [cut_take, List.length_take]
    omega
  show dAdd false (D.lst ((cutL ns none (some (m : Nat))).map D.int)) (D.lst (List.replicate j [D.int 0]).flatten) G K
  rw [er]
  refine ⟨by rw [sizeLine_eq]; simp only [List.length_map, List.length_replicate]; omega, ?_⟩
  rw [newL_f, ← List.map_append]
  exact k _ (by simp only [List.length_append, List.length_replicate]; omega)
theorem pln_nats {n : Nat} {l : List Nat} (h : l.length ≤ 1000) : Pln (n + 1) (.tup (intsN l)) := .tup _ (by rw [List.length_map]; exact h) fun d hd => by
  obtain ⟨z, _, rfl⟩ := List.mem_map.mp hd
  exact .int z
theorem uw_len {pr : List Rw} (hf : Fwd pr) {n : Nat} {s : Bool} {l : List Nat} (h : Uw pr n s l) (hn : n < pr.length) : l.length + n ≤ pr.length := by
  induction h with
  | hit _ _ => simp only [List.length_cons, List.length_nil]; omega
  | step h1 h2 h3 h4 h5 h6 ih =>
    have := hf _ _ h1 _ h3
    have := ih this.2
    rw [List.length_cons]; omega
local macro_rules | `(tactic| walk_at "x") => `(tactic| first | refine go_draw (by first | exact gup_same | assumption | fail) (by assumption) (by omega) (by walk_at "side") (by walk_at "side") fun _ _ _ _ => ?_ | fail)
theorem ok_law {P : Program} {w : World} {K : PySem.W.Frag} {mg : Str → Option Value} {base : Heap} {a : Ad} (T : TxB w K mg base a) : FnD P w K mg base 6 a.f_law a.fd_law ["script"] (sp_law a) := by
  refine fun_okD T.F_law sc_law (fun ds G R h => ?_) (fun cdv A outer s H hr => ⟨_, (qss_cons (qs_set (i := 1) sc_law.nd rfl (.inl rfl) (qe_op (od_add false) (qe_slice false (qv 0) qo_none (qo_some qe_int)) (qe_op (od_rep false) (qe_lst true (qa_cons qe_int qa_nil)) (qe_callTy cd_int rfl T.n_int (by decide +kernel) (qa_cons (qe_cmp (od_eq hr.units) (qv 0) (qe_lst false qa_nil) (nomark _)) qa_nil)))))
      (qss_cons (qs_for PassesOwn.never rfl (qi_range1 rfl T.n_range (qa_cons (qe_callB cd_len rfl T.n_len (by decide +kernel) (qa_cons (qv 1) qa_nil)) qa_nil)) (qg_of (pg_name (i := 2) sc_law.nd rfl (.inl rfl)) (tg_name (i := 2) (ws := [2]) (by decide)))
      (qss_cons (qs_set (i := 3) sc_law.nd rfl (.inl rfl) (qe_call (ok__law_bag T) (hr.mono (by omega)) rfl T.g__law_bag T.F__law_bag.kp T.b__law_bag (qa_cons (qe_ix xd_ix (qv 1) (qv 2) (fun _ _ => rfl)) (qa_cons (qv 2) qa_nil))))
      (qss_cons (qs_set (i := 4) sc_law.nd rfl (.inl rfl) (qe_call (ok__law_machine T) (hr.mono (by omega)) rfl T.g__law_machine T.F__law_machine.kp T.b__law_machine (qa_cons (qv 3) qa_nil)))
      (qss_cons (qs_set (i := 5) sc_law.nd rfl (.inl rfl) (qe_op (od_add false) qe_int (qe_call (ok__law_draw T) (hr.mono (by omega)) rfl T.g__law_draw T.F__law_draw.kp T.b__law_draw (qa_cons (qv 3) (qa_cons qe_int qa_nil)))))
      (qss_cons (qs_set (i := 6) sc_law.nd rfl (.inl rfl) (qe_lst true qa_nil))
      (qss_cons (qs_for PassesOwn.never rfl (qi_range1 rfl T.n_range (qa_cons (qv 5) qa_nil)) (qg_of (pg_name (i := 7) sc_law.nd rfl (.inl rfl)) (tg_name (i := 7) (ws := [7]) (by decide)))
      (qss_cons (qs_set (i := 8) sc_law.nd rfl (.inl rfl) (qe_call (ok__law_row T) (hr.mono (by omega)) rfl T.g__law_row T.F__law_row.kp T.b__law_row (qa_cons (qv 4) (qa_cons (qv 3) (qa_cons qe_int qa_nil)))))
      (qss_cons (qs_if (qt_cmp (od_eq hr.units) (qe_call (ok__law_draw T) (hr.mono (by omega)) rfl T.g__law_draw T.F__law_draw.kp T.b__law_draw (qa_cons (qv 3) (qa_cons qe_int qa_nil))) qe_int (nomark _))
      (qss_one (qs_set (i := 8) sc_law.nd rfl (.inl rfl) (qe_tup qa_nil)))
      qss_nil)
      (qss_one (qs_expr (qe_m PySem.F.plainAttrs_list PySem.F.slot_list_append PySem.F.type_list_append md_append (qv 6) (qa_cons (qe_tup (qa_cons (qv 8) (qa_cons (qe_call (ok__law_next T) (hr.mono (by omega)) rfl T.g__law_next T.F__law_next.kp T.b__law_next (qa_cons (qv 4) (qa_cons (qv 3) (qa_cons (qv 7) (qa_cons (qv 5) qa_nil))))) qa_nil))) qa_nil)))))))
      (qss_one (qs_if (qt_not (qt_val (qe_call (ok__law_same T) (hr.mono (by omega)) rfl T.g__law_same T.F__law_same.kp T.b__law_same (qa_cons (qe_call (ok_unsafe_way T) (hr.mono (by omega)) rfl T.g_unsafe_way T.F_unsafe_way.kp T.b_unsafe_way (qa_cons (qv 4) (qa_cons (qe_callTy cd_tuple rfl T.n_tuple (by decide +kernel) (qa_cons (qv 6) qa_nil)) qa_nil))) (qa_cons (qe_call (ok__law_due T) (hr.mono (by omega)) rfl T.g__law_due T.F__law_due.kp T.b__law_due (qa_cons (qe_callTy cd_tuple rfl T.n_tuple (by decide +kernel) (qa_cons (qv 6) qa_nil)) qa_nil)) qa_nil)))))
      (qss_one (qs_ret qe_bl))
      qss_nil))))))))
      (qss_one (qs_ret qe_bl)))), fun ds G R h => ?_⟩)
  · obtain ⟨ns, rfl, _⟩ := h; rfl
  · obtain ⟨ns, rfl, hl, hT, h⟩ := h
    have hT : G a.PT__law_row = some (.tab qn__law_row) := hT (a.PT__law_row, qn__law_row) List.mem_cons_self
    refine seq_cut (fun σ' G' => ∃ (cs : List Int), σ' = [some (D.lst (ns.map D.int)), some (.lst (cs.map D.int)), none, none, none, none, none, none, none] ∧ cs.length ≤ 25 ∧ Sub G G') ?_ (fun N1 hN1 => ?_)
    rotate_left
    · walk_at "go"
      rename_i p np
      refine cells_go hl (m := 15) (by decide) gup_same fun cs hcs => ?_
      exact hN1 _ _ ⟨cs, rfl, by omega, Sub.new np⟩
    rintro σ G1 ⟨cs, rfl, hcs, hS1⟩
    walk_at "go"
    rw [show ((cs.map D.int).length : Int).toNat = cs.length by simp]
    refine for_rng cs.length (fun k σ' G' => ∃ (x2 x3 x4 x5 x6 x7 x8 : Option D), σ' = [some (D.lst (ns.map D.int)), some (.lst (cs.map D.int)), x2, x3, x4, x5, x6, x7, x8] ∧ Sub G G') ?turn ?fin _ _ ⟨none, none, none, none, none, none, none, rfl, hS1⟩
    case fin =>
      rintro σ' G' ⟨x2, x3, x4, x5, x6, x7, x8, rfl, hS⟩
      walk_at "go"
      exact h _
    case turn =>
      rintro k σ' G' hk ⟨x2, x3, x4, x5, x6, x7, x8, rfl, hS⟩ N hN
      refine seq_cut (fun σ' G2 => ∃ (s : Addr) (o : GO), σ' = [some (D.lst (ns.map D.int)), some (.lst (cs.map D.int)), some (.int (k : Nat)), some (.ref s), x4, x5, x6, x7, x8] ∧ BagO 5000 o ∧ G2 s = some o ∧ G s = none ∧ Sub G G2) ?_ (fun N1 hN1 => ?_)
      rotate_left
      · walk_at "go"
        rw [atI_nat (j := k) (v := D.int cs[k]) (by rw [List.getElem?_map, List.getElem?_eq_getElem hk]; rfl)]
        walk_at "go"
        intro s o ns ho
        exact hN1 _ _ ⟨s, o, rfl, ho, gup_same, hS.nn ns, Sub.news hS ns⟩
      rintro σ G2 ⟨s, o, rfl, ho, es, hGs, hS2⟩
      refine seq_cut (fun σ' G3 => ∃ (M : Mach) (o : GO), σ' = [some (D.lst (ns.map D.int)), some (.lst (cs.map D.int)), some (.int (k : Nat)), some (.ref s), some M.d, x5, x6, x7, x8] ∧ M.ok ∧ 1 ≤ M.h ∧ BagO 5009 o ∧ G3 = gup G2 s o) ?_ (fun N1 hN1 => ?_)
      rotate_left
      · walk_at "go"
        refine go_machine es ho (by omega) fun M o1 hM _ hh _ _ ho1 => ?_
        walk_at "go"
        exact hN1 _ _ ⟨M, o1, rfl, hM, hh, ho1, rfl⟩
      rintro σ G3 ⟨M, o1, rfl, hM, hh, ho1, rfl⟩
      have hTs : a.PT__law_row ≠ s := fun z => by
        have h1 := hS2 _ _ hT
        rw [z, es] at h1
        obtain ⟨_, _, e, _⟩ := ho
        rw [e] at h1
        cases h1
      have hT3 : gup G2 s o1 a.PT__law_row = some (.tab qn__law_row) := by rw [gup_ne hTs]; exact hS2 _ _ hT
      refine seq_cut (fun σ' G3 => ∃ (many : Nat) (o : GO), σ' = [some (D.lst (ns.map D.int)), some (.lst (cs.map D.int)), some (.int (k : Nat)), some (.ref s), some M.d, some (.int (many : Nat)), x6, x7, x8] ∧ 1 ≤ many ∧ many ≤ 9 ∧ BagO 5010 o ∧ G3 = gup G2 s o) ?_ (fun N1 hN1 => ?_)
      rotate_left
      · walk_at "go"
        rename_i r o2 hr ho2
        rw [show (1 : Int) + (r : Int) = ((1 + r : Nat) : Int) by omega]
        exact hN1 _ _ ⟨1 + r, o2, rfl, by omega, by omega, ho2, rfl⟩
      rintro σ G3 ⟨many, o2, rfl, hm1, hm9, ho2, rfl⟩
      refine seq_cut (fun σ' G3 => ∃ (p : Addr), σ' = [some (D.lst (ns.map D.int)), some (.lst (cs.map D.int)), some (.int (k : Nat)), some (.ref s), some M.d, some (.int (many : Nat)), some (.ref p), x7, x8] ∧ s ≠ p ∧ G2 p = none ∧ G3 = gup (gup G2 s o2) p (.lst [])) ?_ (fun N1 hN1 => ?_)
      rotate_left
      · walk_at "go"
        rename_i p np
        have hsp : s ≠ p := fr_ne gup_same np
        exact hN1 _ _ ⟨p, rfl, hsp, by rw [gup_ne hsp.symm] at np; exact np, rfl⟩
      rintro σ G3 ⟨p, rfl, hsp, np2, rfl⟩
      refine seq_cut (fun σ' G3 => ∃ (rs : List Rw) (y7 y8 : Option D), σ' = [some (D.lst (ns.map D.int)), some (.lst (cs.map D.int)), some (.int (k : Nat)), some (.ref s), some M.d, some (.int (many : Nat)), some (.ref p), y7, y8] ∧ rs.length = many ∧ PrOk rs ∧ (∀ r ∈ rs, ∀ o ∈ r.os, o.ok M) ∧ G3 p = some (.lst (rs.map Rw.d)) ∧ Sub G G3) ?_ (fun N1 hN1 => ?_)
      rotate_left
      · walk_at "go"
        rw [Int.toNat_natCast]
        refine for_rng many (fun j σ' G' => ∃ (rs : List Rw) (o : GO) (y7 y8 : Option D), σ' = [some (D.lst (ns.map D.int)), some (.lst (cs.map D.int)), some (.int (k : Nat)), some (.ref s), some M.d, some (.int (many : Nat)), some (.ref p), y7, y8] ∧ Ext s G2 G' ∧ G' s = some o ∧ BagO (5010 + 40 * j) o ∧ G' p = some (.lst (rs.map Rw.d)) ∧ rs.length = j ∧ (∀ r ∈ rs, (∀ o ∈ r.os, o.ok M) ∧ r.os.length ≤ 2) ∧ ∀ (i : Nat) (r : Rw), rs[i]? = some r → r.nx.ok M i many) ?turn2 ?fin2 _ _ ⟨[], o2, _, _, rfl, ((Ext.refl s G2).self).put np2, by rw [gup_ne hsp, gup_same], ho2, gup_same, rfl, (fun _ h => by cases h), fun _ _ h => (by cases h)⟩
        case fin2 =>
          rintro σ' G4 ⟨rs, o4, y7, y8, rfl, hx4, e4, ho4, ep4, hl4, hrs, hnx⟩
          have hfw : Fwd rs := fun i r hi m hm => by
            have h1 := hnx i r hi
            rw [hl4]
            cases hx : r.nx with
            | fin => rw [hx] at hm; cases hm
            | go j => rw [hx] at hm h1; rw [List.mem_singleton.mp hm]; exact h1
            | test pl u v =>
              rw [hx] at hm h1
              rcases List.mem_cons.mp hm with e | hm
              · rw [e]; exact ⟨h1.2.1, h1.2.2.1⟩
              · rw [List.mem_singleton.mp hm]; exact ⟨h1.2.2.2.1, h1.2.2.2.2⟩
          refine hN1 _ _ ⟨rs, _, _, rfl, hl4, ⟨hfw, by omega, fun r hr => by have := (hrs r hr).2; omega⟩, fun r hr => (hrs r hr).1, ep4, fun q u hq => ?_⟩
          have hqs : q ≠ s := fun z => by rw [z, hGs] at hq; cases hq
          exact hx4 q u hqs (hS2 q u hq)
        case turn2 =>
          rintro j σ' G4 hj ⟨rs, o4, y7, y8, rfl, hx4, e4, ho4, ep4, hl4, hrs, hnx⟩ N2 hN2
          walk_at "go"
          have hT4 : G4 a.PT__law_row = some (.tab qn__law_row) := hx4 _ _ hTs (hS2 _ _ hT)
          refine go_row (most := 2) hM hh (by decide) hT4 e4 ho4 (by omega) fun os o5 hos hol hmay ho5 => ?_
          have hpo := sortO_perm os
          refine seq_cut (fun σ' G5 => ∃ (os' : List Ord) (o6 : GO), σ' = [some (D.lst (ns.map D.int)), some (.lst (cs.map D.int)), some (.int (k : Nat)), some (.ref s), some M.d, some (.int (many : Nat)), some (.ref p), some (.int (j : Nat)), some (.tup (os'.map Ord.d))] ∧ (∀ o ∈ os', o.ok M) ∧ os'.length ≤ 2 ∧ BagO (5010 + 40 * j + 20) o6 ∧ G5 = gup G4 s o6) ?_ (fun N3 hN3 => ?_)
          rotate_left
          · walk_at "go"
            rename_i r o6 hr ho6
            split
            · walk_at "go"
              exact hN3 _ _ ⟨[], o6, rfl, (fun _ h => by cases h), by decide, ho6.mono (by omega), rfl⟩
            · walk_at "go"
              exact hN3 _ _ ⟨sortO os, o6, rfl, fun o ho => hos o (hpo.mem_iff.mp ho), by rw [hpo.length_eq]; exact hol, ho6.mono (by omega), rfl⟩
          rintro σ G5 ⟨os', o6, rfl, hos', hol', ho6, rfl⟩
          have ep6 : gup G4 s o6 p = some (.lst (rs.map Rw.d)) := by rw [gup_ne hsp.symm]; exact ep4
          walk_at "go"
          refine ⟨mty_at ep6, ?_⟩
          refine go_next hM hh hj (by omega) gup_same ho6 (by omega) fun x o7 hx ho7 => ?_
          rw [gup_gup]
          walk_at "go"
          have ep7 : gup G4 s o7 p = some (.lst (rs.map Rw.d)) := by rw [gup_ne hsp.symm]; exact ep4
          rw [atL_at ep7]
          refine ⟨by rw [sizeLine_eq, List.length_map]; omega, ?_⟩
          refine hN2 _ _ ⟨rs ++ [⟨os', x⟩], o7, _, _, rfl, (hx4.self).put np2, by rw [gup_ne hsp, gup_same], ho7.mono (by omega), by rw [gup_same, List.map_append]; rfl, by rw [List.length_append, hl4]; rfl, fun r hr => ?_, fun i r hi => ?_⟩
          · rcases List.mem_append.mp hr with hr | hr
            · exact hrs r hr
            · rw [List.mem_singleton.mp hr]; exact ⟨hos', hol'⟩
          · rcases snoc_get hi with hi | ⟨ei, er⟩
            · exact hnx i r hi
            · rw [er, ei, hl4]; exact hx
      rintro σ G3 ⟨rs, y7, y8, rfl, hl3, hok, hom, ep3, hS3⟩
      walk_at "go"
      rw [tuple_r ep3]
      refine ⟨M.d, rs, rfl, hok, by omega, fun hns => ?_, fun l hu => ?_⟩
      · show dTuple [D.ref p] G3 _
        rw [tuple_r ep3]
        refine go_due hM hom hok (by omega) (by omega) (.inl ⟨hns, ?_⟩)
        refine go_same .non ?_
        walk_at "go"
        exact hN _ _ ⟨_, _, _, _, _, _, _, rfl, hS3⟩
      · show dTuple [D.ref p] G3 _
        rw [tuple_r ep3]
        refine go_due hM hom hok (by omega) (by omega) (.inr ⟨l, hu, ?_⟩)
        have := uw_len hok.fwd hu (by omega)
        refine go_same (pln_nats (by omega)) ?_
        walk_at "go"
        exact hN _ _ ⟨_, _, _, _, _, _, _, rfl, hS3⟩
theorem txB_of {w : World} {K : PySem.W.Frag} {mg : Str → Option Value} {base : Heap} {a : Ad} (T : Tx w K mg a) (h : ∀ p ∈ tabsL a, LamX.TabB base mg p.1 p.2) : TxB w K mg base a := ⟨T, h _ (List.mem_cons_self)⟩
theorem all_mk {w : World} {K : PySem.W.Frag} {h : Heap} {mg : Str → Option Value} (X : K.In h) (G : h.Ns mainGlobals mg)
    {f0 : Addr} {od0 an0 : Option Addr} {sl0 : Array (Option Value)} {oc0 kV0 dc0 pm0 cd0 ct0 : Value}
    (a0 : PySem.W.nsIn K mainGlobals "nexts_of" = some (some (.ref f0)))
    (l0 : K.lookup f0 = some ⟨oc0, od0, .func (PySem.W.fnOf "nexts_of" "nexts_of" (defArgs s_nexts_of) (defBody s_nexts_of) (defScope s_nexts_of) .none kV0 dc0 pm0 an0 cd0 ct0), sl0⟩) (c0 : PySem.W.codeIn K cd0 "nexts_of" = true) (k0 : PySem.W.keepIn K (.ref f0) = true)
    {f1 : Addr} {od1 an1 : Option Addr} {sl1 : Array (Option Value)} {oc1 kV1 dc1 pm1 cd1 ct1 : Value}
    (a1 : PySem.W.nsIn K mainGlobals "may_trap" = some (some (.ref f1)))
    (l1 : K.lookup f1 = some ⟨oc1, od1, .func (PySem.W.fnOf "may_trap" "may_trap" (defArgs s_may_trap) (defBody s_may_trap) (defScope s_may_trap) .none kV1 dc1 pm1 an1 cd1 ct1), sl1⟩) (c1 : PySem.W.codeIn K cd1 "may_trap" = true) (k1 : PySem.W.keepIn K (.ref f1) = true)
    {f2 : Addr} {od2 an2 : Option Addr} {sl2 : Array (Option Value)} {oc2 kV2 dc2 pm2 cd2 ct2 : Value}
    (a2 : PySem.W.nsIn K mainGlobals "is_seen" = some (some (.ref f2)))
    (l2 : K.lookup f2 = some ⟨oc2, od2, .func (PySem.W.fnOf "is_seen" "is_seen" (defArgs s_is_seen) (defBody s_is_seen) (defScope s_is_seen) .none kV2 dc2 pm2 an2 cd2 ct2), sl2⟩) (c2 : PySem.W.codeIn K cd2 "is_seen" = true) (k2 : PySem.W.keepIn K (.ref f2) = true)
    {f3 : Addr} {od3 an3 : Option Addr} {sl3 : Array (Option Value)} {oc3 kV3 dc3 pm3 cd3 ct3 : Value}
    (a3 : PySem.W.nsIn K mainGlobals "shows" = some (some (.ref f3)))
    (l3 : K.lookup f3 = some ⟨oc3, od3, .func (PySem.W.fnOf "shows" "shows" (defArgs s_shows) (defBody s_shows) (defScope s_shows) .none kV3 dc3 pm3 an3 cd3 ct3), sl3⟩) (c3 : PySem.W.codeIn K cd3 "shows" = true) (k3 : PySem.W.keepIn K (.ref f3) = true)
    {f4 : Addr} {od4 an4 : Option Addr} {sl4 : Array (Option Value)} {oc4 kV4 dc4 pm4 cd4 ct4 : Value}
    (a4 : PySem.W.nsIn K mainGlobals "unsafe_way" = some (some (.ref f4)))
    (l4 : K.lookup f4 = some ⟨oc4, od4, .func (PySem.W.fnOf "unsafe_way" "unsafe_way" (defArgs s_unsafe_way) (defBody s_unsafe_way) (defScope s_unsafe_way) .none kV4 dc4 pm4 an4 cd4 ct4), sl4⟩) (c4 : PySem.W.codeIn K cd4 "unsafe_way" = true) (k4 : PySem.W.keepIn K (.ref f4) = true)
    {f5 : Addr} {od5 an5 : Option Addr} {sl5 : Array (Option Value)} {oc5 kV5 dc5 pm5 cd5 ct5 : Value}
    (a5 : PySem.W.nsIn K mainGlobals "_law_bag" = some (some (.ref f5)))
    (l5 : K.lookup f5 = some ⟨oc5, od5, .func (PySem.W.fnOf "_law_bag" "_law_bag" (defArgs s__law_bag) (defBody s__law_bag) (defScope s__law_bag) .none kV5 dc5 pm5 an5 cd5 ct5), sl5⟩) (c5 : PySem.W.codeIn K cd5 "_law_bag" = true) (k5 : PySem.W.keepIn K (.ref f5) = true)
    {f6 : Addr} {od6 an6 : Option Addr} {sl6 : Array (Option Value)} {oc6 kV6 dc6 pm6 cd6 ct6 : Value}
    (a6 : PySem.W.nsIn K mainGlobals "_law_draw" = some (some (.ref f6)))
    (l6 : K.lookup f6 = some ⟨oc6, od6, .func (PySem.W.fnOf "_law_draw" "_law_draw" (defArgs s__law_draw) (defBody s__law_draw) (defScope s__law_draw) .none kV6 dc6 pm6 an6 cd6 ct6), sl6⟩) (c6 : PySem.W.codeIn K cd6 "_law_draw" = true) (k6 : PySem.W.keepIn K (.ref f6) = true)
    {f7 : Addr} {od7 an7 : Option Addr} {sl7 : Array (Option Value)} {oc7 kV7 dc7 pm7 cd7 ct7 : Value}
    (a7 : PySem.W.nsIn K mainGlobals "_law_same" = some (some (.ref f7)))
    (l7 : K.lookup f7 = some ⟨oc7, od7, .func (PySem.W.fnOf "_law_same" "_law_same" (defArgs s__law_same) (defBody s__law_same) (defScope s__law_same) .none kV7 dc7 pm7 an7 cd7 ct7), sl7⟩) (c7 : PySem.W.codeIn K cd7 "_law_same" = true) (k7 : PySem.W.keepIn K (.ref f7) = true)
    {f8 : Addr} {od8 an8 : Option Addr} {sl8 : Array (Option Value)} {oc8 kV8 dc8 pm8 cd8 ct8 : Value}
    (a8 : PySem.W.nsIn K mainGlobals "_law_machine" = some (some (.ref f8)))
    (l8 : K.lookup f8 = some ⟨oc8, od8, .func (PySem.W.fnOf "_law_machine" "_law_machine" (defArgs s__law_machine) (defBody s__law_machine) (defScope s__law_machine) .none kV8 dc8 pm8 an8 cd8 ct8), sl8⟩) (c8 : PySem.W.codeIn K cd8 "_law_machine" = true) (k8 : PySem.W.keepIn K (.ref f8) = true)
    {f9 : Addr} {od9 an9 : Option Addr} {sl9 : Array (Option Value)} {oc9 kV9 dc9 pm9 cd9 ct9 : Value}
    (a9 : PySem.W.nsIn K mainGlobals "_law_place" = some (some (.ref f9)))
    (l9 : K.lookup f9 = some ⟨oc9, od9, .func (PySem.W.fnOf "_law_place" "_law_place" (defArgs s__law_place) (defBody s__law_place) (defScope s__law_place) .none kV9 dc9 pm9 an9 cd9 ct9), sl9⟩) (c9 : PySem.W.codeIn K cd9 "_law_place" = true) (k9 : PySem.W.keepIn K (.ref f9) = true)
    {f10 : Addr} {od10 an10 : Option Addr} {sl10 : Array (Option Value)} {oc10 kV10 dc10 pm10 cd10 ct10 : Value}
    (a10 : PySem.W.nsIn K mainGlobals "_law_order" = some (some (.ref f10)))
    (l10 : K.lookup f10 = some ⟨oc10, od10, .func (PySem.W.fnOf "_law_order" "_law_order" (defArgs s__law_order) (defBody s__law_order) (defScope s__law_order) .none kV10 dc10 pm10 an10 cd10 ct10), sl10⟩) (c10 : PySem.W.codeIn K cd10 "_law_order" = true) (k10 : PySem.W.keepIn K (.ref f10) = true)
    {f11 : Addr} {od11 an11 : Option Addr} {sl11 : Array (Option Value)} {oc11 kV11 dc11 pm11 cd11 ct11 : Value}
    (a11 : PySem.W.nsIn K mainGlobals "_law_text" = some (some (.ref f11)))
    (l11 : K.lookup f11 = some ⟨oc11, od11, .func (PySem.W.fnOf "_law_text" "_law_text" (defArgs s__law_text) (defBody s__law_text) (defScope s__law_text) .none kV11 dc11 pm11 an11 cd11 ct11), sl11⟩) (c11 : PySem.W.codeIn K cd11 "_law_text" = true) (k11 : PySem.W.keepIn K (.ref f11) = true)
    {f12 : Addr} {od12 an12 : Option Addr} {sl12 : Array (Option Value)} {oc12 kV12 dc12 pm12 cd12 ct12 : Value}
    (a12 : PySem.W.nsIn K mainGlobals "_law_to" = some (some (.ref f12)))
    (l12 : K.lookup f12 = some ⟨oc12, od12, .func (PySem.W.fnOf "_law_to" "_law_to" (defArgs s__law_to) (defBody s__law_to) (defScope s__law_to) .none kV12 dc12 pm12 an12 cd12 ct12), sl12⟩) (c12 : PySem.W.codeIn K cd12 "_law_to" = true) (k12 : PySem.W.keepIn K (.ref f12) = true)
    {f13 : Addr} {od13 an13 : Option Addr} {sl13 : Array (Option Value)} {oc13 kV13 dc13 pm13 ct13 : Value}
    (a13 : PySem.W.nsIn K mainGlobals "_law_row" = some (some (.ref f13)))
    {cT13 PT13 : Addr} {tc13 : Value} {td13 : Option Addr} {vs13 : Array Value} {ts13 : Array (Option Value)}
    (l13 : K.lookup f13 = some ⟨oc13, od13, .func (PySem.W.fnOf "_law_row" "_law_row" (defArgs s__law_row) (defBody s__law_row) (defScope s__law_row) .none kV13 dc13 pm13 an13 (.ref cT13) ct13), sl13⟩) (c13 : PySem.W.codeIn K (.ref cT13) "_law_row" = true) (k13 : PySem.W.keepIn K (.ref f13) = true)
    (oC13 : K.lookup cT13 = some ⟨tc13, td13, .fields vs13, ts13⟩) (pC13 : vs13[11]? = some (.ref PT13)) (hC13 : PySem.W.codeHdIn K cT13 PT13 = true) (nC13 : K.lookup PT13 = none) (eC13 : h.get? PT13 = some { cls := .none, data := .fields #[] })
    {f14 : Addr} {od14 an14 : Option Addr} {sl14 : Array (Option Value)} {oc14 kV14 dc14 pm14 cd14 ct14 : Value}
    (a14 : PySem.W.nsIn K mainGlobals "_law_next" = some (some (.ref f14)))
    (l14 : K.lookup f14 = some ⟨oc14, od14, .func (PySem.W.fnOf "_law_next" "_law_next" (defArgs s__law_next) (defBody s__law_next) (defScope s__law_next) .none kV14 dc14 pm14 an14 cd14 ct14), sl14⟩) (c14 : PySem.W.codeIn K cd14 "_law_next" = true) (k14 : PySem.W.keepIn K (.ref f14) = true)
    {f15 : Addr} {od15 an15 : Option Addr} {sl15 : Array (Option Value)} {oc15 kV15 dc15 pm15 cd15 ct15 : Value}
    (a15 : PySem.W.nsIn K mainGlobals "_law_ways" = some (some (.ref f15)))
    (l15 : K.lookup f15 = some ⟨oc15, od15, .func (PySem.W.fnOf "_law_ways" "_law_ways" (defArgs s__law_ways) (defBody s__law_ways) (defScope s__law_ways) .none kV15 dc15 pm15 an15 cd15 ct15), sl15⟩) (c15 : PySem.W.codeIn K cd15 "_law_ways" = true) (k15 : PySem.W.keepIn K (.ref f15) = true)
    {f16 : Addr} {od16 an16 : Option Addr} {sl16 : Array (Option Value)} {oc16 kV16 dc16 pm16 cd16 ct16 : Value}
    (a16 : PySem.W.nsIn K mainGlobals "_law_due" = some (some (.ref f16)))
    (l16 : K.lookup f16 = some ⟨oc16, od16, .func (PySem.W.fnOf "_law_due" "_law_due" (defArgs s__law_due) (defBody s__law_due) (defScope s__law_due) .none kV16 dc16 pm16 an16 cd16 ct16), sl16⟩) (c16 : PySem.W.codeIn K cd16 "_law_due" = true) (k16 : PySem.W.keepIn K (.ref f16) = true)
    {f17 : Addr} {od17 an17 : Option Addr} {sl17 : Array (Option Value)} {oc17 kV17 dc17 pm17 cd17 ct17 : Value}
    (a17 : PySem.W.nsIn K mainGlobals "law" = some (some (.ref f17)))
    (l17 : K.lookup f17 = some ⟨oc17, od17, .func (PySem.W.fnOf "law" "law" (defArgs s_law) (defBody s_law) (defScope s_law) .none kV17 dc17 pm17 an17 cd17 ct17), sl17⟩) (c17 : PySem.W.codeIn K cd17 "law" = true) (k17 : PySem.W.keepIn K (.ref f17) = true)
    (z_all : PySem.W.nsIn K mainGlobals "all" = some none)
    (z_any : PySem.W.nsIn K mainGlobals "any" = some none)
    (z_bool : PySem.W.nsIn K mainGlobals "bool" = some none)
    (z_int : PySem.W.nsIn K mainGlobals "int" = some none)
    (z_isinstance : PySem.W.nsIn K mainGlobals "isinstance" = some none)
    (z_len : PySem.W.nsIn K mainGlobals "len" = some none)
    (z_list : PySem.W.nsIn K mainGlobals "list" = some none)
    (z_min : PySem.W.nsIn K mainGlobals "min" = some none)
    (z_range : PySem.W.nsIn K mainGlobals "range" = some none)
    (z_sorted : PySem.W.nsIn K mainGlobals "sorted" = some none)
    (z_str : PySem.W.nsIn K mainGlobals "str" = some none)
    (z_tuple : PySem.W.nsIn K mainGlobals "tuple" = some none)
    (z_zip : PySem.W.nsIn K mainGlobals "zip" = some none)
    : ∃ a : Ad, Tx w K mg a ∧ mg "law" = some (.ref a.f_law) ∧ (∀ (s : Shared) (v : Value), BindsTo s a.fd_law ⟨[v], []⟩ [("script", v)]) ∧ ∀ p ∈ tabsL a, PySem.W.codeHdIn K p.1 p.2 = true ∧ K.lookup p.2 = none ∧ h.get? p.2 = some { cls := .none, data := .fields #[] } := by
  refine ⟨⟨f0, PySem.W.fnOf "nexts_of" "nexts_of" (defArgs s_nexts_of) (defBody s_nexts_of) (defScope s_nexts_of) .none kV0 dc0 pm0 an0 cd0 ct0, f1, PySem.W.fnOf "may_trap" "may_trap" (defArgs s_may_trap) (defBody s_may_trap) (defScope s_may_trap) .none kV1 dc1 pm1 an1 cd1 ct1, f2, PySem.W.fnOf "is_seen" "is_seen" (defArgs s_is_seen) (defBody s_is_seen) (defScope s_is_seen) .none kV2 dc2 pm2 an2 cd2 ct2, f3, PySem.W.fnOf "shows" "shows" (defArgs s_shows) (defBody s_shows) (defScope s_shows) .none kV3 dc3 pm3 an3 cd3 ct3, f4, PySem.W.fnOf "unsafe_way" "unsafe_way" (defArgs s_unsafe_way) (defBody s_unsafe_way) (defScope s_unsafe_way) .none kV4 dc4 pm4 an4 cd4 ct4, f5, PySem.W.fnOf "_law_bag" "_law_bag" (defArgs s__law_bag) (defBody s__law_bag) (defScope s__law_bag) .none kV5 dc5 pm5 an5 cd5 ct5, f6, PySem.W.fnOf "_law_draw" "_law_draw" (defArgs s__law_draw) (defBody s__law_draw) (defScope s__law_draw) .none kV6 dc6 pm6 an6 cd6 ct6, f7, PySem.W.fnOf "_law_same" "_law_same" (defArgs s__law_same) (defBody s__law_same) (defScope s__law_same) .none kV7 dc7 pm7 an7 cd7 ct7, f8, PySem.W.fnOf "_law_machine" "_law_machine" (defArgs s__law_machine) (defBody s__law_machine) (defScope s__law_machine) .none kV8 dc8 pm8 an8 cd8 ct8, f9, PySem.W.fnOf "_law_place" "_law_place" (defArgs s__law_place) (defBody s__law_place) (defScope s__law_place) .none kV9 dc9 pm9 an9 cd9 ct9, f10, PySem.W.fnOf "_law_order" "_law_order" (defArgs s__law_order) (defBody s__law_order) (defScope s__law_order) .none kV10 dc10 pm10 an10 cd10 ct10, f11, PySem.W.fnOf "_law_text" "_law_text" (defArgs s__law_text) (defBody s__law_text) (defScope s__law_text) .none kV11 dc11 pm11 an11 cd11 ct11, f12, PySem.W.fnOf "_law_to" "_law_to" (defArgs s__law_to) (defBody s__law_to) (defScope s__law_to) .none kV12 dc12 pm12 an12 cd12 ct12, f13, PySem.W.fnOf "_law_row" "_law_row" (defArgs s__law_row) (defBody s__law_row) (defScope s__law_row) .none kV13 dc13 pm13 an13 (.ref cT13) ct13, f14, PySem.W.fnOf "_law_next" "_law_next" (defArgs s__law_next) (defBody s__law_next) (defScope s__law_next) .none kV14 dc14 pm14 an14 cd14 ct14, f15, PySem.W.fnOf "_law_ways" "_law_ways" (defArgs s__law_ways) (defBody s__law_ways) (defScope s__law_ways) .none kV15 dc15 pm15 an15 cd15 ct15, f16, PySem.W.fnOf "_law_due" "_law_due" (defArgs s__law_due) (defBody s__law_due) (defScope s__law_due) .none kV16 dc16 pm16 an16 cd16 ct16, f17, PySem.W.fnOf "law" "law" (defArgs s_law) (defBody s_law) (defScope s_law) .none kV17 dc17 pm17 an17 cd17 ct17, cT13, PT13⟩, ?_, PySem.W.mg_of X G a17, fun s v => .of_eq rfl, List.forall_mem_cons.mpr ⟨⟨hC13, nC13, eC13⟩, fun _ z => nomatch z⟩⟩
  exact ⟨fun_mk (st := s_nexts_of) l0 c0 k0, (fun_mk (st := s_nexts_of) l0 c0 k0).binds (fun _ _ _ _ _ _ us hl => match us, hl with | [_], _ => rfl), PySem.W.mg_of X G a0,
    fun_mk (st := s_may_trap) l1 c1 k1, (fun_mk (st := s_may_trap) l1 c1 k1).binds (fun _ _ _ _ _ _ us hl => match us, hl with | [_], _ => rfl), PySem.W.mg_of X G a1,
    fun_mk (st := s_is_seen) l2 c2 k2, (fun_mk (st := s_is_seen) l2 c2 k2).binds (fun _ _ _ _ _ _ us hl => match us, hl with | [_], _ => rfl), PySem.W.mg_of X G a2,
    fun_mk (st := s_shows) l3 c3 k3, (fun_mk (st := s_shows) l3 c3 k3).binds (fun _ _ _ _ _ _ us hl => match us, hl with | [_, _, _], _ => rfl), PySem.W.mg_of X G a3,
    fun_mk (st := s_unsafe_way) l4 c4 k4, (fun_mk (st := s_unsafe_way) l4 c4 k4).binds (fun _ _ _ _ _ _ us hl => match us, hl with | [_, _], _ => rfl), PySem.W.mg_of X G a4,
    fun_mk (st := s__law_bag) l5 c5 k5, (fun_mk (st := s__law_bag) l5 c5 k5).binds (fun _ _ _ _ _ _ us hl => match us, hl with | [_, _], _ => rfl), PySem.W.mg_of X G a5,
    fun_mk (st := s__law_draw) l6 c6 k6, (fun_mk (st := s__law_draw) l6 c6 k6).binds (fun _ _ _ _ _ _ us hl => match us, hl with | [_, _], _ => rfl), PySem.W.mg_of X G a6,
    fun_mk (st := s__law_same) l7 c7 k7, (fun_mk (st := s__law_same) l7 c7 k7).binds (fun _ _ _ _ _ _ us hl => match us, hl with | [_, _], _ => rfl), PySem.W.mg_of X G a7,
    fun_mk (st := s__law_machine) l8 c8 k8, (fun_mk (st := s__law_machine) l8 c8 k8).binds (fun _ _ _ _ _ _ us hl => match us, hl with | [_], _ => rfl), PySem.W.mg_of X G a8,
    fun_mk (st := s__law_place) l9 c9 k9, (fun_mk (st := s__law_place) l9 c9 k9).binds (fun _ _ _ _ _ _ us hl => match us, hl with | [_, _], _ => rfl), PySem.W.mg_of X G a9,
    fun_mk (st := s__law_order) l10 c10 k10, (fun_mk (st := s__law_order) l10 c10 k10).binds (fun _ _ _ _ _ _ us hl => match us, hl with | [_, _], _ => rfl), PySem.W.mg_of X G a10,
    fun_mk (st := s__law_text) l11 c11 k11, (fun_mk (st := s__law_text) l11 c11 k11).binds (fun _ _ _ _ _ _ us hl => match us, hl with | [_], _ => rfl), PySem.W.mg_of X G a11,
    fun_mk (st := s__law_to) l12 c12 k12, (fun_mk (st := s__law_to) l12 c12 k12).binds (fun _ _ _ _ _ _ us hl => match us, hl with | [_], _ => rfl), PySem.W.mg_of X G a12,
    fun_mk (st := s__law_row) l13 c13 k13, (fun_mk (st := s__law_row) l13 c13 k13).binds (fun _ _ _ _ _ _ us hl => match us, hl with | [_, _, _], _ => rfl), rfl, PySem.W.mg_of X G a13,
    fun_mk (st := s__law_next) l14 c14 k14, (fun_mk (st := s__law_next) l14 c14 k14).binds (fun _ _ _ _ _ _ us hl => match us, hl with | [_, _, _, _], _ => rfl), PySem.W.mg_of X G a14,
    fun_mk (st := s__law_ways) l15 c15 k15, (fun_mk (st := s__law_ways) l15 c15 k15).binds (fun _ _ _ _ _ _ us hl => match us, hl with | [_], _ => rfl), PySem.W.mg_of X G a15,
    fun_mk (st := s__law_due) l16 c16 k16, (fun_mk (st := s__law_due) l16 c16 k16).binds (fun _ _ _ _ _ _ us hl => match us, hl with | [_], _ => rfl), PySem.W.mg_of X G a16,
    fun_mk (st := s_law) l17 c17 k17, (fun_mk (st := s_law) l17 c17 k17).binds (fun _ _ _ _ _ _ us hl => match us, hl with | [_], _ => rfl), PySem.W.mg_of X G a17,
    PySem.W.mg_none_of X G z_all,
    PySem.W.mg_none_of X G z_any,
    PySem.W.mg_none_of X G z_bool,
    PySem.W.mg_none_of X G z_int,
    PySem.W.mg_none_of X G z_isinstance,
    PySem.W.mg_none_of X G z_len,
    PySem.W.mg_none_of X G z_list,
    PySem.W.mg_none_of X G z_min,
    PySem.W.mg_none_of X G z_range,
    PySem.W.mg_none_of X G z_sorted,
    PySem.W.mg_none_of X G z_str,
    PySem.W.mg_none_of X G z_tuple,
    PySem.W.mg_none_of X G z_zip⟩
end K64
open PySem PySem.W PyProof.Rows
set_option maxHeartbeats 0 in
theorem PySem.Challenge.cw_steploft_k64_ways_that_are_not_safe_holds : PySem.Challenge.rw_steploft_k64_ways_that_are_not_safe.Holds := by
  w_on; o_law; k_head; (case hw => w_witness2)
  k_fill
  refine LamX.walk_ofTs (l := PySem.Challenge.rw_steploft_k64_ways_that_are_not_safe) (n := 63) (k := 6) (x := "script") (CX := fun _ => L2.CX0) rfl (by decide) rfl ⟨rfl, by decide, by decide⟩ (fun w h Y => PySem.W.km_in_of Y) ?F (fun _ _ _ _ _ h => h)
  case F =>
    intro w mg fa h Y KX G hmg
    have z := DL.at_K KX (fun K' => ∃ a : K64.Ad, K64.Tx w K' mg a ∧ mg "law" = some (.ref a.f_law) ∧ (∀ (s : Shared) (v : Value), BindsTo s a.fd_law ⟨[v], []⟩ [("script", v)]) ∧ ∀ p ∈ K64.tabsL a, PySem.W.codeHdIn K' p.1 p.2 = true ∧ K'.lookup p.2 = none ∧ h.get? p.2 = some { cls := .none, data := .fields #[] }) (by
      refine' K64.all_mk KX G ?a0 ?l0 ?c0 ?k0 ?a1 ?l1 ?c1 ?k1 ?a2 ?l2 ?c2 ?k2 ?a3 ?l3 ?c3 ?k3 ?a4 ?l4 ?c4 ?k4 ?a5 ?l5 ?c5 ?k5 ?a6 ?l6 ?c6 ?k6 ?a7 ?l7 ?c7 ?k7 ?a8 ?l8 ?c8 ?k8 ?a9 ?l9 ?c9 ?k9 ?a10 ?l10 ?c10 ?k10 ?a11 ?l11 ?c11 ?k11 ?a12 ?l12 ?c12 ?k12 ?a13 ?l13 ?c13 ?k13 ?oC13 ?pC13 ?hC13 ?nC13 ?eC13 ?a14 ?l14 ?c14 ?k14 ?a15 ?l15 ?c15 ?k15 ?a16 ?l16 ?c16 ?k16 ?a17 ?l17 ?c17 ?k17 ?z_all ?z_any ?z_bool ?z_int ?z_isinstance ?z_len ?z_list ?z_min ?z_range ?z_sorted ?z_str ?z_tuple ?z_zip
      (case a0 => k_is); (case l0 => k_is); (case c0 => k_is); (case k0 => k_is); (case a1 => k_is); (case l1 => k_is); (case c1 => k_is); (case k1 => k_is); (case a2 => k_is); (case l2 => k_is); (case c2 => k_is); (case k2 => k_is); (case a3 => k_is); (case l3 => k_is); (case c3 => k_is); (case k3 => k_is); (case a4 => k_is); (case l4 => k_is); (case c4 => k_is); (case k4 => k_is); (case a5 => k_is); (case l5 => k_is); (case c5 => k_is); (case k5 => k_is); (case a6 => k_is); (case l6 => k_is); (case c6 => k_is); (case k6 => k_is); (case a7 => k_is); (case l7 => k_is); (case c7 => k_is); (case k7 => k_is); (case a8 => k_is); (case l8 => k_is); (case c8 => k_is); (case k8 => k_is); (case a9 => k_is); (case l9 => k_is); (case c9 => k_is); (case k9 => k_is); (case a10 => k_is); (case l10 => k_is); (case c10 => k_is); (case k10 => k_is); (case a11 => k_is); (case l11 => k_is); (case c11 => k_is); (case k11 => k_is); (case a12 => k_is); (case l12 => k_is); (case c12 => k_is); (case k12 => k_is); (case a13 => k_is); (case l13 => k_is); (case c13 => k_is); (case k13 => k_is); (case oC13 => k_is); (case pC13 => rfl); (case hC13 => kernel_rfl); (case nC13 => kernel_rfl); (case eC13 => exact PySem.W.km_tabs_of Y _ (by k_mem)); (case a14 => k_is); (case l14 => k_is); (case c14 => k_is); (case k14 => k_is); (case a15 => k_is); (case l15 => k_is); (case c15 => k_is); (case k15 => k_is); (case a16 => k_is); (case l16 => k_is); (case c16 => k_is); (case k16 => k_is); (case a17 => k_is); (case l17 => k_is); (case c17 => k_is); (case k17 => k_is); (case z_all => k_is); (case z_any => k_is); (case z_bool => k_is); (case z_int => k_is); (case z_isinstance => k_is); (case z_len => k_is); (case z_list => k_is); (case z_min => k_is); (case z_range => k_is); (case z_sorted => k_is); (case z_str => k_is); (case z_tuple => k_is); (case z_zip => k_is))
    obtain ⟨a, T, hm, hb, hp⟩ := z
    have e := hmg.symm.trans hm
    cases e
    exact ⟨_, K64.tabsL a, K64.spV_law a _, fun p hq => (hp p hq).2.2, fun p hq => (hp p hq).2.1, fun p hq => PySem.W.codeHd_of_K KX (hp p hq).1, hb, fun H b ns hl hbi hH hS => K64.spV_at (by first | exact List.nodup_cons.mpr ⟨List.not_mem_nil, List.nodup_nil⟩ | assumption) hl hbi hH hS, fun base _ _ TB => K64.ok_law (K64.txB_of T TB)⟩




